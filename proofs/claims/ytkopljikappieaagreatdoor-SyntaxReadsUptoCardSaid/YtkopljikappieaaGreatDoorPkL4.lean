/-
  Texts of this claim, packed (what nothing names is left out): X1w, Num, NumC, TextC, Num2, NumH, X1, X1h, X2, VkR, TakH, X3, SynP1, R1, Q2s, SynP2. Own work, partly printed by own programs. No condition.
-/
import Derived.Test.YtkopljikappieaaGreatDoorPkL1
import Derived.Test.YtkopljikappieaaGreatDoorPkL3
import Derived.Test.YtkopljikappieaaGreatDoorPkL2
import Derived.Test.YtkopljikappieaaGreatDoorRows
import GoSem.Op.String
import Derived.Recover
set_option linter.unusedVariables false
set_option linter.unusedSimpArgs false
set_option maxHeartbeats 2000000
section
namespace Go.Proofs.YtkopljikappieaaGreatDoor
open Go Go.Vc Go.RowKit
def qX (n:Nat) (d0:Bool) (d1:Int) (d2:Bs):Option (Sum (Int×Bs) Unit):=
 bif !d0 then
  ((h_fail n d1 d2).bind λX1=>
  (match X1 with
  |.inl X2=>some (.inl X2)
  |.inr X3=>some (.inr ())))
 else
  some (.inr ())
theorem oc (n:Nat) (M:Mem) (d0:Bool) (d1:Int) (d2:Bs) (r:Sum (Int×Bs) Unit) (hF:qX n d0 d1 d2=some r):OkX Tryz.prog M 31 [bO d0,iL d1,S d2] 78 r (λr=>λ_ v=>v=.tuple #[]):=by
 unfold qX at hF
 intro M1 hM0 w0 H w p0
 refine Re 11 Tryz.func31 rfl λa0 f0=>RR (Ye f0 2 λ_ f=>RcF f hF (λB1 F1=>?_) λB1 F3=>?_)
 ·refine ay (Y f 2 λ_ f=>?_)
  obtain⟨X1,l1,F2⟩:=bS F1
  rcases X1 with X2|X3
  ·refine aN f p0 (tu n _ d1 d2 (.inl X2) l1) kr (λ_=>by kernel_rfl) λV1 W1 J1 N1=>aV f ?_
   cases sI F2
   exact⟨V1,J1,N1,rfl⟩
  refine Y8 f p0 (OkX.ok (tu n _ d1 d2 (.inr X3) l1)) λ_ V2 W2 J2 N2 ef _ f=>?_
  obtain⟨rfl⟩:=ef
  refine ag rfl (eN f rfl ?_)
  cases sI F2
  exact⟨_,rfl,_,J2,N2.kr,rfl⟩
 refine wp_skip (eN f rfl ?_)
 cases sI F3
 exact⟨_,rfl,M1,mL,p0.kr,rfl⟩
end Go.Proofs.YtkopljikappieaaGreatDoor
end
section
namespace Go.Num
def dig (c:UInt8):Bool:=48≤c&&c≤57
def nd:Bs→Nat→Nat
 |[],k=>k
 |c::r,k=>if dig c then nd r (k+1) else k
def vl:Bs→Nat→Nat
 |[],v=>v
 |c::r,v=>if dig c then vl r (10*v+ (c.toNat-48)) else v
def neg (l:Bs):Bool:=decide (l.getD 0 0=45)
def fst (l:Bs):Nat:=if neg l then 1 else 0
def big:Nat:=9007199254740992
def scanL (l:Bs) (at_:Int):Int×Int×Int:=
 let f:=fst l
 let k:=nd (l.drop f) f
 let v:=vl (l.drop f) 0
 if l.getD f 0=48∧f+2≤k then(0,at_+ (f+1),20)
 else if k=f∨l.getD k 0=46∨l.getD k 0=101∨l.getD k 0=69 then(0,at_+k,20)
 else if big<v∨(neg l=true∧v=0) then(0,at_,20)
 else(if neg l then-(v:Int) else v,at_+k,0)
theorem tp (l:Bs) (k:Nat) (h:k<l.length):l.drop k=l.getD k 0::l.drop (k+1):=by
 rw[List.drop_eq_getElem_cons h];simp[List.getD,h]
theorem nd_stop (l:Bs) (k:Nat) (hd:dig (l.getD k 0)=false):nd (l.drop k) k=k:=by
 by_cases h:k<l.length
 ·rw[tp l k h];simp only[nd,hd];rfl
 rw[List.drop_eq_nil_of_le (by omega)];rfl
theorem vl_stop (l:Bs) (k v:Nat) (hd:dig (l.getD k 0)=false):vl (l.drop k) v=v:=by
 by_cases h:k<l.length
 ·rw[tp l k h];simp only[vl,hd];rfl
 rw[List.drop_eq_nil_of_le (by omega)];rfl
structure ScanI (l:Bs) (k:Nat) (v:Nat):Prop where
 ge:fst l≤k
 le:k≤l.length
 nd:nd (l.drop k) k=nd (l.drop (fst l)) (fst l)
 vl:vl (l.drop k) v=vl (l.drop (fst l)) 0
 zero:fst l+2≤k→l.getD (fst l) 0≠48
 one:fst l+1≤k→dig (l.getD (fst l) 0)=true
theorem ScanI.lt {l:Bs} {k v:Nat} (_:ScanI l k v) (hd:dig (l.getD k 0)=true):k<l.length:=by
 rcases Nat.lt_or_ge k l.length with h|h
 ·exact h
 have:l.getD k 0=0:=by simp[List.getD,List.getElem?_eq_none h]
 rw[this] at hd;simp[dig] at hd
theorem ScanI.stop {l:Bs} {k v:Nat} (h:ScanI l k v) (at_:Int) (hd:dig (l.getD k 0)=false):
 scanL l at_=if k=fst l∨l.getD k 0=46∨l.getD k 0=101∨l.getD k 0=69 then(0,at_+k,20)
  else if big<v∨(neg l=true∧v=0) then(0,at_,20)
  else(if neg l then-(v:Int) else v,at_+k,0):=by
 have h1:=h.nd
 rw[nd_stop l k hd] at h1
 have h2:=h.vl
 rw[vl_stop l k v hd] at h2
 unfold scanL
 simp only[]
 rw[←h1,←h2,if_neg]
 rintro⟨h3,h4⟩
 exact h.zero h4 h3
theorem byte_of {c:UInt8} {n:Int} (d:UInt8) (h: ((c.toNat:Nat):Int)=n) (hd: (d.toNat:Int)=n):c=d:=UInt8.toNat_inj.1 (by omega)
def fitsB (n:Int):Bool:=decide (-9007199254740992≤n∧n≤9007199254740992)
theorem fits_eq (n:Int): (decide ((-9007199254740992:Int)≤n)&&decide (n≤9007199254740992))=fitsB n:=by simp[fitsB]
theorem fits_eqR (n:Int): (decide ((-9007199254740992:Int)≤n)&&decide (n≤9007199254740992))=fitsB n:=by simp[fitsB]
section
variable {l:Bs} {k v:Nat} {n at_ sl:Int} (I:ScanI l k v) (hd:dig (l.getD k 0)=false)
include I hd
theorem ScanI.e1 (h: (k:Int)=(fst l:Int)∨(at_+ (k:Int)<sl∧(((l.getD k 0).toNat:Int)=46∨(((l.getD k 0).toNat:Int)=101∨((l.getD k 0).toNat:Int)=69)))):scanL l at_=(0,at_+k,20):=by
 rw[I.stop at_ hd,if_pos]
 rcases h with h|⟨_,h|h|h⟩
 ·exact .inl (by omega)
 ·exact .inr (.inl (byte_of 46 h rfl))
 ·exact .inr (.inr (.inl (byte_of 101 h rfl)))
 exact .inr (.inr (.inr (byte_of 69 h rfl)))
theorem ScanI.e2 (hno: ¬ (k=fst l∨l.getD k 0=46∨l.getD k 0=101∨l.getD k 0=69)) (h:9007199254740992<v∨(neg l=true∧v=0)):scanL l at_=(0,at_,20):=by
 rw[I.stop at_ hd,if_neg hno,if_pos (by unfold big;exact h)]
theorem ScanI.e3 (hno: ¬ (k=fst l∨l.getD k 0=46∨l.getD k 0=101∨l.getD k 0=69)) (h: ¬ (9007199254740992<v∨(neg l=true∧v=0))):scanL l at_=(if neg l then-(v:Int) else v,at_+k,0):=by
 rw[I.stop at_ hd,if_neg hno,if_neg (by unfold big;exact h)]
end
def dch (n:Nat):UInt8:=UInt8.ofNat (48+n % 10)
def digsF:Nat→Nat→Bs
 |0,_=>[]
 |f+1,n=>if n<10 then [dch n] else digsF f (n / 10)++[dch n]
def digs (n:Nat):Bs:=digsF (n+1) n
theorem rP: ∀ (f g n:Nat),n<f→n<g→digsF f n=digsF g n
 |0,_,n,h,_=>by omega
 |f+1,0,n,_,h=>by omega
 |f+1,g+1,n,h1,h2=>by
  simp only[digsF]
  split
  ·rfl
  rw[rP f g (n / 10) (by omega) (by omega)]
theorem oq {n:Nat} (h:n<10):digs n=[dch n]:=by unfold digs;simp only[digsF];rw[if_pos h]
theorem rn {n:Nat} (h: ¬n<10):digs n=digs (n / 10)++[dch n]:=by
 unfold digs
 rw[digsF,if_neg h,rP n (n / 10+1) (n / 10) (by omega) (by omega)]
theorem tm (n:Nat): (dch n).toNat=48+n % 10:=by
 unfold dch;rw[UInt8.toNat_ofNat'];omega
theorem dch_int (n:Nat): (48+ (n:Int) % 10) % 256=((dch n).toNat:Int):=by rw[tm];omega
theorem dch_mod (n:Nat):dch (n % 10)=dch n:=by unfold dch;rw[Nat.mod_mod]
theorem dch_small {n:Nat} (h:n<10): (48+ (n:Int)) % 256=((dch n).toNat:Int):=by rw[tm];omega
theorem digs_len: ∀ (k n:Nat),n<10 ^ (k+1)→(digs n).length≤k+1
 |0,n,h=>by rw[oq (by omega)];simp
 |k+1,n,h=>by
  by_cases h10:n<10
  ·rw[oq h10];simp
  rw[rn h10]
  have:=digs_len k (n / 10) (by rw[Nat.pow_succ] at h;omega)
  simp;omega
theorem lx {n:Nat} (h:n≤9007199254740992): (digs n).length≤16:=digs_len 15 n (by omega)
def text (n:Int):Bs×Int:=if fitsB n then(if n<0 then 45::digs (-n).toNat else digs n.toNat,0) else([],20)
theorem tr {n:Int}:fitsB n=true↔ -9007199254740992≤n∧n≤9007199254740992:=by simp[fitsB]
theorem text_no {n:Int} (h:fitsB n=false):text n=([],20):=by simp[text,h]
theorem text_neg {n:Int} (h:fitsB n=true) (h0:n<0):text n=(45::digs (-n).toNat,0):=by simp[text,h,h0]
theorem text_pos {n:Int} (h:fitsB n=true) (h0: ¬n<0):text n=(digs n.toNat,0):=by simp[text,h,h0]
end Go.Num
end
section
namespace Go.Proofs.YtkopljikappieaaGreatDoor
open Go Go.Vc Go.RowKit Go.Num
theorem fits_ok (M:Mem) (n:Int):Ok Tryz.prog M 136 [iL n] (λ_ v=>v=bO (fitsB n)):=by
 intro M hM0 w0 H w p0
 refine Re 9 Tryz.func136 rfl λa0 f0=>RR (Ye f0 1 λ_ f=>ah (aW (λa_2 W1=>Frm 9 [(2,bO ((decide ((-9007199254740992:Int)≤n))&& (decide (n≤9007199254740992))))] a_2∧Hp w0 M (H) W1) ?_ ?_))
 ·refine ay (Y f 3 λ_ f=>?_)
  rcases bE (decide ((-9007199254740992:Int)≤n)) with B1|B1
  ·have f:=f.st 5 (cB B1)
   refine Ye f 4 λ_ f=>?_
   have f:=Frm.set f 2 (v:=.bool (decide (n≤9007199254740992))) (v':=.bool ((decide ((-9007199254740992:Int)≤n))&& (decide (n≤9007199254740992)))) (by kernel_rfl) (by simp only[B1,Bool.and_true,Bool.true_and,Bool.false_and,Bool.and_false,Bool.or_true,Bool.true_or,Bool.or_false,Bool.false_or,nT,nF,cond_true,cond_false])
   exact⟨f.kp,p0⟩
  have f:=f.st 5 (cB B1)
  refine Ye f 4 λ_ f=>?_
  have f:=Frm.set f 2 (v:=.bool false) (v':=.bool ((decide ((-9007199254740992:Int)≤n))&& (decide (n≤9007199254740992)))) (by kernel_rfl) (by simp only[B1,Bool.and_true,Bool.true_and,Bool.false_and,Bool.and_false,Bool.or_true,Bool.true_or,Bool.or_false,Bool.false_or,nT,nF,cond_true,cond_false])
  exact⟨f.kp,p0⟩
 rintro a_2 W1 ⟨f,N1⟩
 refine az (wp_ret (am f rfl (Lk 2 (bO ((decide ((-9007199254740992:Int)≤n))&& (decide (n≤9007199254740992))))) (⟨_,rfl,M,(mR _),N1,?_⟩)))
 exact cB (fits_eq _)
theorem fitsR_ok (M:Mem) (n:Int):Ok Tryz.prog M 126 [iL n] (λ_ v=>v=bO (fitsB n)):=by
 intro M hM0 w0 H w p0
 refine Re 9 Tryz.func126 rfl λa0 f0=>RR (Ye f0 1 λ_ f=>ah (aW (λa_2 W1=>Frm 9 [(2,bO ((decide ((-9007199254740992:Int)≤n))&& (decide (n≤9007199254740992))))] a_2∧Hp w0 M (H) W1) ?_ ?_))
 ·refine ay (Y f 3 λ_ f=>?_)
  rcases bE (decide ((-9007199254740992:Int)≤n)) with B1|B1
  ·have f:=f.st 5 (cB B1)
   refine Ye f 4 λ_ f=>?_
   have f:=Frm.set f 2 (v:=.bool (decide (n≤9007199254740992))) (v':=.bool ((decide ((-9007199254740992:Int)≤n))&& (decide (n≤9007199254740992)))) (by kernel_rfl) (by simp only[B1,Bool.and_true,Bool.true_and,Bool.false_and,Bool.and_false,Bool.or_true,Bool.true_or,Bool.or_false,Bool.false_or,nT,nF,cond_true,cond_false])
   exact⟨f.kp,p0⟩
  have f:=f.st 5 (cB B1)
  refine Ye f 4 λ_ f=>?_
  have f:=Frm.set f 2 (v:=.bool false) (v':=.bool ((decide ((-9007199254740992:Int)≤n))&& (decide (n≤9007199254740992)))) (by kernel_rfl) (by simp only[B1,Bool.and_true,Bool.true_and,Bool.false_and,Bool.and_false,Bool.or_true,Bool.true_or,Bool.or_false,Bool.false_or,nT,nF,cond_true,cond_false])
  exact⟨f.kp,p0⟩
 rintro a_2 W1 ⟨f,N1⟩
 refine az (wp_ret (am f rfl (Lk 2 (bO ((decide ((-9007199254740992:Int)≤n))&& (decide (n≤9007199254740992))))) (⟨_,rfl,M,(mR _),N1,?_⟩)))
 exact cB (fits_eqR _)
theorem tP (M:Mem) (bp bo n:Nat): ∀ (hn:n≤9007199254740992) (v:Value) (k:Nat) (xs:Lv) (hk:k≤1000),OkH Tryz.prog M [oC bp #[.func (.func 137) #[] #[pP bp,pP bo]] 172,oC bo #[v] 140,Ent.row 5 1 v k xs] 137 [iL (n:Int),pP bp,pP bo] (λ_ E2 r=>r=.tuple #[]∧∃v2,E2=[oC bp #[.func (.func 137) #[] #[pP bp,pP bo]] 172,oC bo #[v2] 140,Ent.row 5 1 v2 (k+ (digs n).length) (xs++eb (digs n))]):=by
 induction n using Nat.strongRecOn generalizing M
 rename_i n ih
 intro hn v k xs hk
 have hl1:=lx hn
 have hl2:=lx (n:=n / 10) (by omega)
 intro M hM0 w0 H w p0
 refine Re 17 Tryz.func137 rfl λa0 f0=>ah (RR (Ye f0 2 λ_ f=>Y3 f (b:=decide ((9:Int)<(n:Int))) (λB1=>?_) λB1=>?_))
 ·have U1:=dI.1 B1
  refine ay (Z f (eo (v:=.func (.func 137) #[] #[pP bp,pP bo]) rfl (ad:=⟨bp,0,none⟩) kr kr (p0.ownCell 0 rfl 0)) λ_ f=>Y f 1 λ_ f=>Y f 1 λ_ f=>?_)
  have f:=Frm.set f 8 (v:=iL (IntKind.wrap .i64 ((n:Int).tdiv 10))) (v':=iL ((n:Int) / 10)) kr (congrArg (Value.int .i64) (quo_i64 (by omega) (by decide) (by omega)))
  have f:=Frm.set f 8 (v:=iL ((n:Int) / 10)) (v':=iL ((n / 10:Nat):Int)) kr (congrArg (Value.int .i64) (by omega))
  refine V_okH (E:=[oC bp #[.func (.func 137) #[] #[pP bp,pP bo]] 172,oC bo #[v] 140,Ent.row 5 1 v k xs]) (H:=(H)) f p0 (ih (n / 10) (by omega) _ (by omega) v k xs hk) kr (λ_=>by kernel_rfl) λv_1 V1 mG W1 J1 N1 ef _ f=>?_
  obtain⟨rfl,v2,rfl⟩:=ef
  have N2:Hp w0 M ((oC bp #[.func (.func 137) #[] #[pP bp,pP bo]] 172)::(oC bo #[v2] 140)::(Ent.row 5 1 v2 (k+ (digs (n / 10)).length) (xs++eb (digs (n / 10))))::H) W1:=N1.less J1
  refine eT (ay (Z f (eo (v:=v2) rfl (ad:=⟨bo,0,none⟩) kr kr (N2.ownCell 1 rfl 0)) λ_ f=>Y f 1 λ_ f=>Y f 1 λ_ f=>?_))
  have f:=Frm.set f 12 (v:=iL ((n:Int).tmod 10)) (v':=iL ((n:Int) % 10)) kr (congrArg (Value.int .i64) (rem_nn (by omega)))
  refine Y f 1 λ_ f=>?_
  have f:=Frm.set f 13 (v:=iL (IntKind.wrap .i64 ((48:Int)+ ((n:Int) % 10)))) (v':=iL ((48:Int)+ ((n:Int) % 10))) kr (congrArg (Value.int .i64) (IntWalk.i64_in _ (by omega)))
  refine Y f 1 λ_ f=>?_
  have f:=Frm.set f 14 (v:=.int .u8 (IntKind.wrap .u8 ((48:Int)+ ((n:Int) % 10)))) (v':=.int .u8 (((48:Int)+ ((n:Int) % 10)) % 256)) kr (congrArg (Value.int .u8) (IntKind.wrap_u8 _))
  have f:=Frm.set f 14 (v:=.int .u8 (((48:Int)+ ((n:Int) % 10)) % 256)) (v':=.int .u8 ((dch n).toNat:Int)) kr (congrArg (Value.int .u8) (dch_int n))
  refine aE (k:=1) (c:=1) f N2 (.cells #[.int .u8 ((dch n).toNat:Int)] 5 (0,0)) kr (λ_=>by kernel_rfl) λQ1 W2 N3 _ f=>?_
  have N4:=N3.pl [3]
  refine mr (d:=16) (t:=140) (e:=5) (z:=.int .u8 0) (v:=v2) (size:=1) (bytes:=1) (k:=k+ (digs (n / 10)).length) (m:=1) (c:=1) (xs:=xs++eb (digs (n / 10))) (news:=[.int .u8 ((dch n).toNat:Int)]) (ad:=⟨Q1,0,none⟩) f N4 kr kr rfl rfl rfl kr kr kr kr (rfl) (ow (N4.ownCell 1 rfl) 0 rfl) (all_one kr) (by omega) (by omega) λv_2 W3 N5 _ f=>?_
  have N6:=N5.pl [1]
  have N7:=N6.drop
  refine jF f N7 2 kr kr rfl rfl (b:=bo) (j:=0) (v:=v_2) kr kr (row_one (N7.rowAt 0 rfl)) kr (by exact rfl) (by simp) (by simp) _ rfl λW4 N8 _ f=>ag rfl (eN f rfl ?_)
  have N9:Hp w0 M ((Ent.row 5 1 v_2 (k+ (digs n).length) (xs++eb (digs n)))::(oC bp #[.func (.func 137) #[] #[pP bp,pP bo]] 172)::(oC bo #[v_2] 140)::H) W4:=N8.rowEq (by rw[rn (n:=n) (by omega)];simp;omega) (by rw[rn (n:=n) (by omega),sP,List.append_assoc];rfl)
  have N11:=N9.pl [2,2]
  exact⟨_,rfl,M,[oC bp #[.func (.func 137) #[] #[pP bp,pP bo]] 172,oC bo #[v_2] 140,Ent.row 5 1 v_2 (k+ (digs n).length) (xs++eb (digs n))],mR _,N11,rfl,v_2,rfl⟩
 have U2:=aj dI B1
 refine St (ay (Z f (eo (v:=v) rfl (ad:=⟨bo,0,none⟩) kr kr (p0.ownCell 1 rfl 0)) λ_ f=>Y f 1 λ_ f=>Y f 1 λ_ f=>?_))
 have f:=Frm.set f 12 (v:=iL ((n:Int).tmod 10)) (v':=iL ((n:Int) % 10)) kr (congrArg (Value.int .i64) (rem_nn (by omega)))
 refine Y f 1 λ_ f=>?_
 have f:=Frm.set f 13 (v:=iL (IntKind.wrap .i64 ((48:Int)+ ((n:Int) % 10)))) (v':=iL ((48:Int)+ ((n:Int) % 10))) kr (congrArg (Value.int .i64) (IntWalk.i64_in _ (by omega)))
 refine Y f 1 λ_ f=>?_
 have f:=Frm.set f 14 (v:=.int .u8 (IntKind.wrap .u8 ((48:Int)+ ((n:Int) % 10)))) (v':=.int .u8 (((48:Int)+ ((n:Int) % 10)) % 256)) kr (congrArg (Value.int .u8) (IntKind.wrap_u8 _))
 have f:=Frm.set f 14 (v:=.int .u8 (((48:Int)+ ((n:Int) % 10)) % 256)) (v':=.int .u8 ((dch n).toNat:Int)) kr (congrArg (Value.int .u8) (dch_int n))
 refine aE (k:=1) (c:=1) f p0 (.cells #[.int .u8 ((dch n).toNat:Int)] 5 (0,0)) kr (λ_=>by kernel_rfl) λQ2 W5 N12 _ f=>?_
 have N13:=N12.pl [3]
 refine mr (d:=16) (t:=140) (e:=5) (z:=.int .u8 0) (v:=v) (size:=1) (bytes:=1) (k:=k) (m:=1) (c:=1) (xs:=xs) (news:=[.int .u8 ((dch n).toNat:Int)]) (ad:=⟨Q2,0,none⟩) f N13 kr kr rfl rfl rfl kr kr kr kr (rfl) (ow (N13.ownCell 1 rfl) 0 rfl) (all_one kr) (by omega) (by omega) λv_3 W6 N14 _ f=>?_
 have N15:=N14.pl [1]
 have N16:=N15.drop
 refine jF f N16 2 kr kr rfl rfl (b:=bo) (j:=0) (v:=v_3) kr kr (row_one (N16.rowAt 0 rfl)) kr (by exact rfl) (by simp) (by simp) _ rfl λW7 N17 _ f=>ag rfl (eN f rfl ?_)
 have N18:Hp w0 M ((Ent.row 5 1 v_3 (k+ (digs n).length) (xs++eb (digs n)))::(oC bp #[.func (.func 137) #[] #[pP bp,pP bo]] 172)::(oC bo #[v_3] 140)::H) W7:=N17.rowEq (by rw[oq (n:=n) (by omega)];rfl) (by rw[oq (n:=n) (by omega)];rfl)
 have N20:=N18.pl [2,2]
 exact⟨_,rfl,M,[oC bp #[.func (.func 137) #[] #[pP bp,pP bo]] 172,oC bo #[v_3] 140,Ent.row 5 1 v_3 (k+ (digs n).length) (xs++eb (digs n))],mR _,N20,rfl,v_3,rfl⟩
theorem textP_ok (M:Mem) (n:Int):Ok Tryz.prog M 114 [iL n] (λ_ v=>v=.tuple #[S (text n).1,iL (text n).2]):=by
 intro M hM0 w0 H w p0
 refine Re 25 Tryz.func114 rfl λa0 f0=>RR (Ye f0 2 λ_ f=>ah (RR (Y f 1 λ_ f=>Y9 f p0 (fits_ok _ (n)) λW1 N1 _ f=>Ye f 1 λ_ f=>Y3 f (b:= !(fitsB n)) (λB1=>?_) λB1=>?_)))
 ·have U1: (fitsB n)=false:=by simpa using B1
  refine RR (Ye f 2 λ_ f=>wp_ret (bl (jR f rfl (Lk 2 (S [])) (Lk 3 (iL 20)) (⟨_,rfl,M,(mR _),(N1.dropN 0),?_⟩))))
  rw[text_no U1]
 have U2: (fitsB n)=true:=by simpa using B1
 refine St (ah ?_)
 have hfit:=U2
 have hfit2:=tr.1 hfit
 refine ay (Y4 f N1 (.cells #[Sn] 140 (0,0)) λQ1 W2 N2 _ f=>eT (RR (Y4 f N2 (.cells #[.nilFunc] 172 (0,0)) λQ2 W3 N3 _ f=>eT (RR (Y f 1 λ_ f=>jF f N3 0 kr kr rfl rfl (b:=Q2) (j:=0) (v:=.func (.func 137) #[] #[pP Q2,pP Q1]) kr kr rfl kr (by exact rfl) (by simp) (by simp) _ rfl λW4 N4 _ f=>eT (ah (wp_block (RR (Y f 1 λ_ f=>?_)))))))))
 have N5:=N4.nilRow 5 1
 refine Ye f 2 λ_ f=>Y3 f (b:=decide (n<0)) (λB2=>?_) λB2=>?_
 ·have U3:=dI.1 B2
  refine RR (Z f (eo (v:=Sn) rfl (ad:=⟨Q1,0,none⟩) kr kr (N5.ownCell 2 rfl 0)) λ_ f=>aE (k:=1) (c:=1) f N5 (.cells #[.int .u8 45] 5 (0,0)) kr (λ_=>by kernel_rfl) λQ3 W5 N6 _ f=>?_)
  have N7:=N6.pl [1]
  refine mr (d:=18) (t:=140) (e:=5) (z:=.int .u8 0) (v:=Sn) (size:=1) (bytes:=1) (k:=0) (m:=1) (c:=1) (xs:=[]) (news:=[.int .u8 45]) (ad:=⟨Q3,0,none⟩) f N7 kr kr rfl rfl rfl kr kr kr kr (rfl) (ow (N7.ownCell 1 rfl) 0 rfl) (all_one kr) (by omega) (by omega) λv_1 W6 N8 _ f=>?_
  have N9:=N8.pl [1]
  have N10:=N9.drop
  refine jF f N10 2 kr kr rfl rfl (b:=Q1) (j:=0) (v:=v_1) kr kr (row_one (N10.rowAt 0 rfl)) kr (by exact rfl) (by simp) (by simp) _ rfl λW7 N11 _ f=>eT (ay (Z f (eo (v:=.func (.func 137) #[] #[pP Q2,pP Q1]) rfl (ad:=⟨Q2,0,none⟩) kr kr (N11.ownCell 1 rfl 0)) λ_ f=>Y f 1 λ_ f=>Y f 1 λ_ f=>?_))
  have f:=Frm.set f 21 (v:=iL (IntKind.wrap .i64 (0-n))) (v':=iL (-n)) kr (congrArg (Value.int .i64) ((IntWalk.i64_in _ (by omega)).trans (Int.zero_sub _)))
  have f:=Frm.set f 21 (v:=iL (-n)) (v':=iL ((-n).toNat:Int)) kr (congrArg (Value.int .i64) (by omega))
  have N13:=N11.pl [2,2]
  refine V_okH (E:=[oC Q2 #[.func (.func 137) #[] #[pP Q2,pP Q1]] 172,oC Q1 #[v_1] 140,Ent.row 5 1 v_1 (0+1) ([]++[.int .u8 45])]) (H:=(H)) f N13 (tP _ Q2 Q1 ((-n).toNat) (by omega) (v_1) (0+1) ([]++[.int .u8 45]) (by omega)) kr (λ_=>by kernel_rfl) λv_2 V1 mG W8 J1 N14 ef _ f=>?_
  obtain⟨rfl,v3,rfl⟩:=ef
  have N15:Hp w0 M ((oC Q2 #[.func (.func 137) #[] #[pP Q2,pP Q1]] 172)::(oC Q1 #[v3] 140)::(Ent.row 5 1 v3 ((0+1)+ (digs (-n).toNat).length) (([]++[.int .u8 45])++eb (digs (-n).toNat)))::H) W8:=N14.less J1
  refine ag rfl (ec (az (RR (Z f (eo (v:=v3) rfl (ad:=⟨Q1,0,none⟩) kr kr (N15.ownCell 1 rfl 0)) λ_ f=>?_))))
  have N16:=N15.pl [2]
  have N17:Hp w0 M ((Ent.row 5 1 v3 (45::digs (-n).toNat).length (eb (45::digs (-n).toNat)))::(oC Q2 #[.func (.func 137) #[] #[pP Q2,pP Q1]] 172)::(oC Q1 #[v3] 140)::H) W8:=N16.rowEq (by simp<;>omega) (by simp[eb])
  refine Z (v:=S (45::digs (-n).toNat)) f (lh rfl (l:=45::digs (-n).toNat) (v:=v3) kr (e:=5) kr kr kr (N17.rowAt 0 rfl)) λ_ f=>Ye f 2 λ_ f=>wp_ret (jR f rfl (Lk 2 (S (45::digs (-n).toNat))) (Lk 3 (iL 0)) (⟨_,rfl,M,(mR _),(N17.dropN 3),?_⟩))
  rw[text_neg hfit U3]
 have U4:=aj dI B2
 refine ay (Z f (eo (v:=.func (.func 137) #[] #[pP Q2,pP Q1]) rfl (ad:=⟨Q2,0,none⟩) kr kr (N5.ownCell 1 rfl 0)) λ_ f=>Y f 1 λ_ f=>?_)
 have f:=Frm.set f 11 (v:=iL n) (v':=iL (n.toNat:Int)) kr (congrArg (Value.int .i64) (by omega))
 have N19:=N5.pl [2,2]
 refine V_okH (E:=[oC Q2 #[.func (.func 137) #[] #[pP Q2,pP Q1]] 172,oC Q1 #[Sn] 140,Ent.row 5 1 Sn 0 []]) (H:=(H)) f N19 (tP _ Q2 Q1 (n.toNat) (by omega) Sn (0) ([]) (by omega)) kr (λ_=>by kernel_rfl) λv_3 V2 rB W9 J2 N20 iK _ f=>?_
 obtain⟨rfl,v3,rfl⟩:=iK
 have N21:Hp w0 M ((oC Q2 #[.func (.func 137) #[] #[pP Q2,pP Q1]] 172)::(oC Q1 #[v3] 140)::(Ent.row 5 1 v3 (0+ (digs n.toNat).length) ([]++eb (digs n.toNat)))::H) W9:=N20.less J2
 refine ag rfl (ec (az (RR (Z f (eo (v:=v3) rfl (ad:=⟨Q1,0,none⟩) kr kr (N21.ownCell 1 rfl 0)) λ_ f=>?_))))
 have N22:=N21.pl [2]
 have N23:Hp w0 M ((Ent.row 5 1 v3 (digs n.toNat).length (eb (digs n.toNat)))::(oC Q2 #[.func (.func 137) #[] #[pP Q2,pP Q1]] 172)::(oC Q1 #[v3] 140)::H) W9:=N22.rowEq (by simp) (by simp)
 refine Z (v:=S (digs n.toNat)) f (lh rfl (l:=digs n.toNat) (v:=v3) kr (e:=5) kr kr kr (N23.rowAt 0 rfl)) λ_ f=>Ye f 2 λ_ f=>wp_ret (jR f rfl (Lk 2 (S (digs n.toNat))) (Lk 3 (iL 0)) (⟨_,rfl,M,(mR _),(N23.dropN 3),?_⟩))
 rw[text_pos hfit U4]
theorem rN (M:Mem) (n:Nat): ∀ (hn:n≤9007199254740992),Ok Tryz.prog M 127 [iL (n:Int)] (λ_ v=>v=S (digs n)):=by
 induction n using Nat.strongRecOn generalizing M
 rename_i n ih
 intro hn
 have hl1:=lx (n:=n / 10) (by omega)
 have hl2:=lx (n:=n % 10) (by omega)
 intro M hM0 w0 H w p0
 refine Re 17 Tryz.func127 rfl λa0 f0=>RR (Ye f0 1 λ_ f=>ah (RR (Ye f 2 λ_ f=>Y3 f (b:=decide ((n:Int)<10)) (λB1=>?_) λB1=>?_)))
 ·have U1:=dI.1 B1
  refine RR (Y f 1 λ_ f=>Y f 1 λ_ f=>?_)
  have f:=Frm.set f 6 (v:=iL (IntKind.wrap .i64 ((48:Int)+ (n:Int)))) (v':=iL ((48:Int)+ (n:Int))) kr (congrArg (Value.int .i64) (IntWalk.i64_in _ (by omega)))
  refine Y f 1 λ_ f=>?_
  have f:=Frm.set f 7 (v:=.int .u8 (IntKind.wrap .u8 ((48:Int)+ (n:Int)))) (v':=.int .u8 (((48:Int)+ (n:Int)) % 256)) kr (congrArg (Value.int .u8) (IntKind.wrap_u8 _))
  have f:=Frm.set f 7 (v:=.int .u8 (((48:Int)+ (n:Int)) % 256)) (v':=.int .u8 ((dch n).toNat:Int)) kr (congrArg (Value.int .u8) (dch_small (by omega)))
  refine aE (k:=1) (c:=1) f p0 (.cells #[.int .u8 ((dch n).toNat:Int)] 5 (0,0)) kr (λ_=>by kernel_rfl) λQ1 W1 N1 _ f=>Z (v:=S [dch n]) f (X_string rfl (l:=[dch n]) (ad:=⟨Q1,0,none⟩) (cap:=1) kr (e:=5) kr kr kr (ow (N1.ownCell 0 rfl) 0 rfl)) λ_ f=>Ye f 1 λ_ f=>wp_ret (bl (am f rfl (Lk 2 (S [dch n])) (⟨_,rfl,M,mR _,(N1.dropN 1),?_⟩)))
  rw[oq (n:=n) (by omega)]
 have U2:=aj dI B1
 refine St (RR (Y f 1 λ_ f=>Y f 1 λ_ f=>?_))
 have f:=Frm.set f 11 (v:=iL (IntKind.wrap .i64 ((n:Int).tdiv 10))) (v':=iL ((n:Int) / 10)) kr (congrArg (Value.int .i64) (quo_i64 (by omega) (by decide) (by omega)))
 have f:=Frm.set f 11 (v:=iL ((n:Int) / 10)) (v':=iL ((n / 10:Nat):Int)) kr (congrArg (Value.int .i64) (by omega))
 refine Y9 f p0 (ih (n / 10) (by omega) _ (by omega)) λW2 N2 _ f=>Y f 1 λ_ f=>Y f 1 λ_ f=>?_
 have f:=Frm.set f 14 (v:=iL ((n:Int).tmod 10)) (v':=iL ((n:Int) % 10)) kr (congrArg (Value.int .i64) (rem_nn (by omega)))
 have f:=Frm.set f 14 (v:=iL ((n:Int) % 10)) (v':=iL ((n % 10:Nat):Int)) kr (congrArg (Value.int .i64) (by omega))
 refine Y9 f N2 (ih (n % 10) (by omega) _ (by omega)) λW3 N3 _ f=>Z f (kJ rfl (l:=digs (n / 10)) (m:=digs (n % 10)) kr kr (by first|omega|(simp only[List.length_cons,List.length_nil,List.length_append];omega))) λ_ f=>Ye f 1 λ_ f=>wp_ret (am f rfl (Lk 2 (S ((digs (n / 10))++(digs (n % 10))))) (⟨_,rfl,M,mR _,(N3.dropN 0),?_⟩))
 rw[rn (n:=n) (by omega),oq (n:=n % 10) (by omega),dch_mod]
theorem textR_ok (M:Mem) (n:Int):Ok Tryz.prog M 88 [iL n] (λ_ v=>v=.tuple #[S (text n).1,iL (text n).2]):=by
 intro M hM0 w0 H w p0
 refine Re 15 Tryz.func88 rfl λa0 f0=>RR (Ye f0 2 λ_ f=>ah (RR (Y f 1 λ_ f=>Y9 f p0 (fitsR_ok _ (n)) λW1 N1 _ f=>Ye f 1 λ_ f=>Y3 f (b:= !(fitsB n)) (λB1=>?_) λB1=>?_)))
 ·have U1: (fitsB n)=false:=by simpa using B1
  refine RR (Ye f 2 λ_ f=>wp_ret (bl (jR f rfl (Lk 2 (S [])) (Lk 3 (iL 20)) (⟨_,rfl,M,mR _,N1,?_⟩))))
  rw[text_no U1]
 have U2: (fitsB n)=true:=by simpa using B1
 refine St (ah (ah ?_))
 have hfit:=U2
 have hfit2:=tr.1 hfit
 refine ay (Ye f 2 λ_ f=>Y3 f (b:=decide (n<0)) (λB2=>?_) λB2=>?_)
 ·have U3:=dI.1 B2
  refine RR (Y f 1 λ_ f=>Y f 1 λ_ f=>?_)
  have f:=Frm.set f 10 (v:=iL (IntKind.wrap .i64 (0-n))) (v':=iL (-n)) kr (congrArg (Value.int .i64) ((IntWalk.i64_in _ (by omega)).trans (Int.zero_sub _)))
  have hl1:=lx (n:=(-n).toNat) (by omega)
  have f:=Frm.set f 10 (v:=iL (-n)) (v':=iL ((-n).toNat:Int)) kr (congrArg (Value.int .i64) (by omega))
  refine Y9 f N1 (rN _ (-n).toNat (by omega)) λW2 N2 _ f=>Z f (kJ rfl (l:=[45]) (m:=digs (-n).toNat) kr kr (by first|omega|(simp only[List.length_cons,List.length_nil,List.length_append];omega))) λ_ f=>Ye f 2 λ_ f=>wp_ret (bl (jR f rfl (Lk 2 (S ([45]++(digs (-n).toNat)))) (Lk 3 (iL 0)) (⟨_,rfl,M,mR _,N2,?_⟩)))
  rw[text_neg hfit U3]
  rfl
 have U4:=aj dI B2
 refine St (RR (Y f 1 λ_ f=>?_))
 have f:=Frm.set f 13 (v:=iL n) (v':=iL (n.toNat:Int)) kr (congrArg (Value.int .i64) (by omega))
 refine Y9 f N1 (rN _ n.toNat (by omega)) λW3 N3 _ f=>Ye f 2 λ_ f=>wp_ret (jR f rfl (Lk 2 (S (digs n.toNat))) (Lk 3 (iL 0)) (⟨_,rfl,M,mR _,N3,?_⟩))
 rw[text_pos hfit U4]
end Go.Proofs.YtkopljikappieaaGreatDoor
end
section
namespace Go.Num
open Go
end Go.Num
namespace Go.Num
open Go
end Go.Num
end
section
namespace Go.Proofs.YtkopljikappieaaGreatDoor
open Go Go.Vc Go.RowKit Go.Num
def qs (_:Nat) (x:Int):Option (Bs×Int):=some (Go.Num.text x)
theorem h_numText_ok (n:Nat) (M:Mem) (x:Int) (r:Bs×Int) (hF:qs n x=some r):Ok Tryz.prog M 114 [iL x] (λ_ v=>v=.tuple #[S r.1,iL r.2]):=by
 obtain rfl:=Option.some.inj hF
 exact textP_ok M x
def mI (_:Nat) (x:Int):Option (Bs×Int):=some (Go.Num.text x)
theorem sQ (n:Nat) (M:Mem) (x:Int) (r:Bs×Int) (hF:mI n x=some r):Ok Tryz.prog M 88 [iL x] (λ_ v=>v=.tuple #[S r.1,iL r.2]):=by
 obtain rfl:=Option.some.inj hF
 exact textR_ok M x
end Go.Proofs.YtkopljikappieaaGreatDoor
end
section
namespace Go.Proofs.YtkopljikappieaaGreatDoor
open Go Go.Vc Go.RowKit
def eE (n:Nat) (d0:TE0):Option Bool:=
 bif(decide (d0.ab=3)) then
  ((dz n d0.aa).bind λX1=>
  some ((X1)))
 else
  some ((false))
theorem gw (n:Nat) (M:Mem) (hG:GL M) (c0:Lv) (d0:TE0) (h0:Rep M (ai d0) c0) (r:Bool) (hF:eE n d0=some r):Ok Tryz.prog M 76 [.agg c0.toArray] (λ_ v=>v=bO r):=by
 unfold eE at hF
 intro M1 hM0 w0 H w p0
 replace hG:=GL.mono hM0 hG
 replace h0:=Rep.mono hM0 _ _ h0
 obtain⟨Z1,P1,Z2,P2,rfl,B1,B2⟩:=TE0.opn h0
 refine Re 11 Tryz.func76 rfl λa0 f0=>RR (Y5 (cs:=(aTE0 d0 Z1 P1 Z2 P2)) (T:=26) f0 p0 λQ1 V1 W1 J1 R1 N1 _ f=>?_)
 have R2:=aU R1
 refine Ye f 1 λ_ f=>RR (Y f 1 λ_ f=>Y7 f N1 R2 0 rfl λ_ f=>Y f 2 λ_ f=>?_)
 rcases cE hF with⟨B3,F1⟩|⟨B3,F3⟩
 ·have f:=f.st 6 (cB B3)
  refine Y f 1 λ_ f=>Y7 f N1 R2 3 rfl λ_ f=>?_
  obtain⟨X1,l1,F2⟩:=bS F1
  refine Y9 f N1 (dK n _ d0.aa X1 l1) λW2 N2 _ f=>Ye f 2 λ_ f=>wp_ret (am f rfl (Lk 2 (bO X1)) ?_)
  cases sI F2
  exact⟨_,rfl,_,J1,N2.kr,rfl⟩
 have f:=f.st 6 (cB B3)
 refine Ye f 5 λ_ f=>wp_ret (am f rfl (Lk 2 (bO false)) ?_)
 cases sI F3
 exact⟨_,rfl,_,J1,N1.kr,rfl⟩
def mQ (n:Nat) (d0:Bs):Option Bool:=
 bif(decide ((d0.length:Int)≤64)) then
  ((gg n d0).bind λX1=>
  some ((X1)))
 else
  some ((false))
theorem sS (n:Nat) (M:Mem) (hG:GL M) (d0:Bs) (r:Bool) (hF:mQ n d0=some r):Ok Tryz.prog M 73 [S d0] (λ_ v=>v=bO r):=by
 unfold mQ at hF
 intro M1 hM0 w0 H w p0
 replace hG:=GL.mono hM0 hG
 refine Re 10 Tryz.func73 rfl λa0 f0=>RR (Ye f0 1 λ_ f=>RR (Y f 4 λ_ f=>?_))
 rcases cE hF with⟨B1,F1⟩|⟨B1,F3⟩
 ·have f:=f.st 6 (cB B1)
  refine Y f 1 λ_ f=>?_
  obtain⟨X1,l1,F2⟩:=bS F1
  refine Y9 f p0 (kk n _ hG d0 X1 l1) λW1 N1 _ f=>Ye f 2 λ_ f=>wp_ret (am f rfl (Lk 2 (bO X1)) ?_)
  cases sI F2
  exact⟨_,rfl,M1,mL,N1.kr,rfl⟩
 have f:=f.st 6 (cB B1)
 refine Ye f 4 λ_ f=>wp_ret (am f rfl (Lk 2 (bO false)) ?_)
 cases sI F3
 exact⟨_,rfl,M1,mL,p0.kr,rfl⟩
def gj (n:Nat) (d0:TE0):Option Bool:=
 bif(decide (d0.ab=3)) then
  ((mQ n d0.aa).bind λX1=>
  some ((X1)))
 else
  some ((false))
theorem gY (n:Nat) (M:Mem) (hG:GL M) (c0:Lv) (d0:TE0) (h0:Rep M (ai d0) c0) (r:Bool) (hF:gj n d0=some r):Ok Tryz.prog M 32 [.agg c0.toArray] (λ_ v=>v=bO r):=by
 unfold gj at hF
 intro M1 hM0 w0 H w p0
 replace hG:=GL.mono hM0 hG
 replace h0:=Rep.mono hM0 _ _ h0
 obtain⟨Z1,P1,Z2,P2,rfl,B1,B2⟩:=TE0.opn h0
 refine Re 11 Tryz.func32 rfl λa0 f0=>RR (Y5 (cs:=(aTE0 d0 Z1 P1 Z2 P2)) (T:=26) f0 p0 λQ1 V1 W1 J1 R1 N1 _ f=>?_)
 have R2:=aU R1
 refine Ye f 1 λ_ f=>RR (Y f 1 λ_ f=>Y7 f N1 R2 0 rfl λ_ f=>Y f 2 λ_ f=>?_)
 rcases cE hF with⟨B3,F1⟩|⟨B3,F3⟩
 ·have f:=f.st 6 (cB B3)
  refine Y f 1 λ_ f=>Y7 f N1 R2 3 rfl λ_ f=>?_
  obtain⟨X1,l1,F2⟩:=bS F1
  refine Y9 f N1 (sS n _ hG.mo d0.aa X1 l1) λW2 N2 _ f=>Ye f 2 λ_ f=>wp_ret (am f rfl (Lk 2 (bO X1)) ?_)
  cases sI F2
  exact⟨_,rfl,_,J1,N2.kr,rfl⟩
 have f:=f.st 6 (cB B3)
 refine Ye f 5 λ_ f=>wp_ret (am f rfl (Lk 2 (bO false)) ?_)
 cases sI F3
 exact⟨_,rfl,_,J1,N1.kr,rfl⟩
theorem bA (M : Mem) (e : Int) (at_ : List UInt8) : Ok Tryz.prog M 31 [.bool true, .int .i64 e, S at_] (fun _ v => v = .tuple #[]) := OkX.ok (oc 0 M true e at_ (.inr ()) rfl)
theorem bz (M : Mem) (e : Int) (at_ : List UInt8) : OkX Tryz.prog M 31 [.bool false, .int .i64 e, S at_] 78 (.inl (e, at_)) (fun (_ : Unit) => fun _ v => v = .tuple #[]) := oc 0 M false e at_ (.inl (e, at_)) rfl
def aT (n:Nat) (d0:Bs) (d1:Bs):Option Bs:=
 bif(decide (d0=[])) then
  (some (d1))
 else
  aL (d0.length+ [47].length≤9223372036854775807)<|
  aL ((d0++[47]).length+d1.length≤9223372036854775807)<|
  some ((d0++[47])++d1)
theorem aR (n:Nat) (M:Mem) (hG:GL M) (d0:Bs) (d1:Bs) (r:Bs) (hF:aT n d0 d1=some r):Ok Tryz.prog M 35 [S d0,S d1] (λ_ v=>v=S r):=by
 unfold aT at hF
 intro M1 hM0 w0 H w p0
 replace hG:=GL.mono hM0 hG
 refine Re 12 Tryz.func35 rfl λa0 f0=>RR (Ye f0 1 λ_ f=>ah (RR (Y f 1 λ_ f=>Z f (Y11 rfl (l:=d0) (m:=[])) λ_ f=>eT (RcF f hF (λB1 F1=>?_) λB1 F2=>?_))))
 ·refine RR (Ye f 2 λ_ f=>wp_ret (bl (am f rfl (Lk 4 (S d1)) ?_)))
  cases sI F1
  exact⟨_,rfl,M1,mL,p0.kr,rfl⟩
 refine St (RR (Y f 1 λ_ f=>?_))
 obtain⟨O1,F3⟩:=nS F2
 refine Z f (kJ rfl (l:=d0) (m:=[47]) kr kr O1) λ_ f=>Y f 1 λ_ f=>?_
 obtain⟨O2,F4⟩:=nS F3
 refine Z f (kJ rfl (l:=d0++[47]) (m:=d1) kr kr O2) λ_ f=>Ye f 1 λ_ f=>wp_ret (am f rfl (Lk 4 (S ((d0++[47])++d1))) ?_)
 cases sI F4
 exact⟨_,rfl,M1,mL,p0.kr,rfl⟩
def er (n:Nat) (d0:Bs) (d1:Int):Option Bs:=
 (qs n d1).bind λX1=>
 (aT n d0 X1.1).bind λX2=>
 some (X2)
theorem gA (n:Nat) (M:Mem) (hG:GL M) (d0:Bs) (d1:Int) (r:Bs) (hF:er n d0 d1=some r):Ok Tryz.prog M 74 [S d0,iL d1] (λ_ v=>v=S r):=by
 unfold er at hF
 intro M1 hM0 w0 H w p0
 replace hG:=GL.mono hM0 hG
 refine Re 15 Tryz.func74 rfl λa0 f0=>RR (Ye f0 1 λ_ f=>RR (Y f 1 λ_ f=>?_))
 obtain⟨X1,l1,F1⟩:=bS hF
 refine Y9 f p0 (h_numText_ok n _ d1 X1 l1) λW1 N1 _ f=>Ye f 5 λ_ f=>RR (Y f 2 λ_ f=>?_)
 obtain⟨X2,l2,F2⟩:=bS F1
 refine Y9 f N1 (aR n _ hG d0 X1.1 X2 l2) λW2 N2 _ f=>Ye f 1 λ_ f=>wp_ret (am f rfl (Lk 4 (S X2)) ?_)
 cases sI F2
 exact⟨_,rfl,M1,mL,N2.kr,rfl⟩
def gH (n:Nat) (rec_syntax_expr:TE0→Bs→Option (Sum (Int×Bs) TG0)) (d0:List TE0) (d2:Bs) (K1:List TG0×Int):Option (Lp (List TG0×Int) (Sum (Int×Bs) (List TG0))):=
    bif(decide (K1.2<((d0.length:Nat):Int))) then
     ((aB d0 K1.2).bind λX1=>
     (er n d2 K1.2).bind λX2=>
     (rec_syntax_expr X1 X2).bind λX3=>
     (match X3 with
     |.inl X4=>some (.br (.inl X4))
     |.inr X5=>aL ((K1.1.length+1)*88≤140737488355328)<|
      aL (inR .i64 (K1.2+1))<|
      some (.nx (K1.1++[X5],K1.2+1))))
    else
     some (.br (.inr K1.1))
def eC (n:Nat) (rec_syntax_expr:TE0→Bs→Option (Sum (Int×Bs) TG0)) (d0:List TE0) (d1:Int) (d2:Bs):Option (Sum (Int×Bs) (List TG0)):=
 (au (gH n rec_syntax_expr d0 d2) n (([]:List TG0),d1)).bind λQ1=>
 (match Q1 with
 |.inl G1=>some (.inl G1)
 |.inr G2=>some (.inr G2))
theorem dj (n:Nat) (rec_syntax_expr:TE0→Bs→Option (Sum (Int×Bs) TG0)) (hrec_syntax_expr: ∀ (M:Mem) (hG:GL M) (c0:Lv) (d0:TE0) (h0:Rep M (ai d0) c0) (d1:Bs) (r:Sum (Int×Bs) TG0) (hF:rec_syntax_expr d0 d1=some r),OkX Tryz.prog M 18 [.agg c0.toArray,S d1] 78 r (λr=>λM' v=>∃ (c0:Lv),v=.agg c0.toArray∧Rep M' (aA r) c0)) (M:Mem) (hG:GL M) (A0:Oa) (cap0:Nat) (d0:List TE0) (h0:Sli M 6 ai A0 cap0 d0) (d1:Int) (d2:Bs) (r:Sum (Int×Bs) (List TG0)) (hF:eC n rec_syntax_expr d0 d1 d2=some r):OkXH Tryz.prog M [] 33 [sL A0 d0 cap0,iL d1,S d2] 78 r (λr=>λM' E' v=>∃ (A0:Oa) (k0:Nat) (s0:Lv),v=sL A0 r k0∧E'=[.row 31 6 (sL A0 r k0) r.length s0]∧ae M' (r.map aA) s0):=by
 unfold eC at hF
 intro M1 hM0 w0 H w p0
 replace hG:=GL.mono hM0 hG
 replace h0:=h0.mono hM0
 refine Re 27 Tryz.func33 rfl λa0 f0=>RR (Ye f0 1 λ_ f=>ah (RR (Ye f 2 λ_ f=>wp_block ?_)))
 obtain⟨Z1,P1,H1,N1⟩:=p0.nilD 31 6 (TG0)
 have f:=f.st 6 (H1)
 have D1:ae M1 (([]:List TG0).map aA) []:=rfl
 obtain⟨Q1,ce,F1⟩:=bS hF
 refine wp_mono (Q:=λe a w=>(∃G1,e=.panic (flawE 78 G1)∧Q1=.inl G1∧∃V4,M1.le V4∧Frm 27 [] a∧Hp w0 V4 (H) w)∨(e=.exit 0∧(∃G2,Q1=.inr G2∧∃V5,M1.le V5∧∃Z7 P7 L3,ae V5 (G2.map aA) L3∧Frm 27 [(6,sL Z7 G2 P7)] a∧Hp w0 V5 ((rO 31 6 Z7 G2 P7 L3)::H) w))) (aZ (σ:=(List TG0×Int)×Oa×Nat×Lv) (λx=>match x with|(I1,K1,Z2,P2,L1)=>(((6,sL Z2 K1.1 P2)::(7,iL K1.2)::kpL [0,2] f.fr),((rO 31 6 Z2 K1.1 P2 L1)::H),λMM=>au (gH n rec_syntax_expr d0 d2) I1 K1=some Q1∧ae MM (K1.1.map aA) L1)) (n,(([]:List TG0),d1),Z1,P1,[]) (f.kp) N1.kr ⟨ce,D1⟩ ?_) ?_
 ·rintro⟨I1,K1,Z2,P2,L1⟩ V1 _ W1 J1 gL f N2
  obtain⟨ci,D2⟩:=gL
  obtain⟨I2,lT,rfl,bg,T1⟩:=aK ci
  unfold gH at bg
  refine ah (RR (Ye f 4 λ_ f=>RcF f bg (λB1 F2=>?_) λB1 F8=>?_))
  ·have U1:=dI.1 B1
   refine St (ah (wp_block (cu 1 [(0,true),(1,true),(2,true),(3,true),(4,true),(5,true),(6,true),(7,true),(8,false),(9,false),(10,false),(11,true)] N2 (Y0 default f 3 λ_ f=>?_))))
   obtain⟨X1,l1,F3⟩:=bS F2
   obtain⟨C1,dW,jC,D3,R1⟩:=Sli.aM V1 h0 l1
   obtain⟨Z3,P3,Z4,P4,rfl,B2,B3⟩:=TE0.opn D3
   refine bG f kr kr rfl rfl (λ_ pq=>XI jC l1) λ_ f=>bG f kr kr rfl rfl (λ_ pq=>XK pq R1 0) λ_ f=>Y0 default f 2 λ_ f=>?_
   obtain⟨X2,l2,F4⟩:=bS F3
   refine eR (v:=S X2) f kr kr rfl rfl (λ_=>by kernel_rfl) (gA n _ hG.mo d2 K1.2 X2 l2) λ_ f=>bI λW3 N4=>?_
   obtain⟨X3,l3,F5⟩:=bS F4
   rcases X3 with X4|X5
   ·refine aN f N4 (hrec_syntax_expr _ hG.mo _ X1 D3.mo X2 (.inl X4) l3) kr (λ_=>by kernel_rfl) λV2 W4 J2 N5=>pm f λ_ f=>oP (cj (cj ?_))
    cases sI F5
    exact .inl ⟨X4,rfl,(sI T1).symm,V2,mL,f.kp,(N5.dropN 1).kr⟩
   refine Y8 f N4 (OkX.ok (hrec_syntax_expr _ hG.mo _ X1 D3.mo X2 (.inr X5) l3)) λ_ V3 W5 J3 N6 ef _ f=>?_
   obtain⟨ie,rfl,D4⟩:=ef
   obtain⟨Z5,P5,rfl,B4⟩:=TG0.opn D4
   refine ag rfl (bL 1 J3 N6 (bI λW6 N7=>aE (k:=1) (c:=1) f N7 (.cells (aTG0 X5 Z5 P5) 31 (0,0)) kr (λ_=>by kernel_rfl) λQ2 W7 N8 _ f=>ag rfl (bL 2 J3 N8 (bI λW8 N9=>?_))))
   obtain⟨O1,F6⟩:=nS F5
   refine dM X5 0 f (N9.toRow 1 31 6 Z2 P2 D2.mo) D2.mo (TG0.shutx B4) O1 λZ6 P6 L2 W9 N10 D5 _ f=>ag rfl (bL 1 J3 N10 (Y0 default f 1 λ_ f=>dx rfl λW10 N11=>ec (az (ay (Y f 1 λ_ f=>?_)))))
   obtain⟨O2,F7⟩:=nS F6
   refine Y f 1 λ_ f=>?_
   have f:=f.st 14 (iW O2)
   refine Ye f 1 λ_ f=>?_
   cases sI F7
   exact⟨⟨I2,(K1.1++[X5],K1.2+1),Z6,P6,L2⟩,Nat.lt_succ_self _,V3,mL,⟨T1,D5⟩,f.kp,N11.kr⟩
  have U2:=aj dI B1
  refine wp_exit (dJ (dJ ?_))
  cases sI F8
  exact .inr ⟨rfl,K1.1,(sI T1).symm,V1,J1,Z2,P2,L1,D2,f.kp,N2.kr⟩
 rintro _ _ W13 (⟨G1,rfl,rfl,V4,J4,f,N12⟩|⟨rfl,G2,rfl,V5,J5,Z7,P7,L3,D6,f,N13⟩)
 ·refine oP (cj (aV f ?_))
  cases sI F1
  exact⟨V4,J4,N12,rfl⟩
 refine jV (az (RR (Ye f 2 λ_ f=>wp_ret (am f rfl (Lk 6 (sL Z7 G2 P7)) ?_))))
 cases sI F1
 exact⟨_,rfl,V5,_,J5,N13.kr,⟨Z7,P7,L3,rfl,rfl,D6⟩⟩
def jb (n:Nat) (d0:TE0) (d1:Bs):Option (Sum (Int×Bs) TG0):=
 (eE n d0).bind λX1=>
 bif X1 then
  (some (.inr (⟨(3:Int),([]:Bs),(0:Int),d0.aa,([]:Bs),([]:List TG0)⟩:TG0)))
 else
  some (.inl ((121:Int),d1))
theorem lV (n:Nat) (M:Mem) (hG:GL M) (c0:Lv) (d0:TE0) (h0:Rep M (ai d0) c0) (d1:Bs) (r:Sum (Int×Bs) TG0) (hF:jb n d0 d1=some r):OkX Tryz.prog M 75 [.agg c0.toArray,S d1] 78 r (λr=>λM' v=>∃ (c0:Lv),v=.agg c0.toArray∧Rep M' (aA r) c0):=by
 unfold jb at hF
 intro M1 hM0 w0 H w p0
 replace hG:=GL.mono hM0 hG
 replace h0:=Rep.mono hM0 _ _ h0
 obtain⟨Z1,P1,Z2,P2,rfl,B1,B2⟩:=TE0.opn h0
 refine Re 12 Tryz.func75 rfl λa0 f0=>RR (Y5 (cs:=(aTE0 d0 Z1 P1 Z2 P2)) (T:=26) f0 p0 λQ1 V1 W1 J1 R1 N1 _ f=>?_)
 have R2:=aU R1
 refine Y4 f N1 (.cells #[iB 0,S [],iL 0,S [],S [],Sn] 31 (0,0)) λQ2 W2 N2 _ f=>eT (RR (Z f (XK N2 R2 0) λ_ f=>?_))
 obtain⟨X1,l1,F1⟩:=bS hF
 refine Y9 f N2 (gw n _ hG.mo _ d0 h0.mo X1 l1) λW3 N3 _ f=>Y f 1 λ_ f=>?_
 rcases cE F1 with⟨B3,F2⟩|⟨B3,F3⟩
 ·have f:=f.st 6 (cB B3)
  refine Y9 f N3 (bA _ (121:Int) d1) λW4 N4 _ f=>eT (RR (Y f 1 λ_ f=>Y7 f N4 R2 3 rfl λ_ f=>Y f 1 λ_ f=>Wu f N4 0 0 [iB 3,S [],iL 0,S d0.aa,S [],Sn] λW5 N5 _ f=>Er (bM f rfl (Rv.oN [iB 3,S [],iL 0,S d0.aa,S [],Sn] f N5 0 0) ?_)))
  cases sI F2
  exact⟨_,rfl,_,J1,(N5.dropN 1).kr,⟨_,rfl,(TG0.shutx Sli.nil)⟩⟩
 have f:=f.st 6 (cB B3)
 refine aN f N3 (bz _ (121:Int) d1) kr (λ_=>by kernel_rfl) λV2 W6 J2 N6=>cj (aV f ?_)
 cases sI F3
 exact⟨V2,mL,(N6.dropN 1),rfl⟩
def gi (n:Nat) (d0:TE0) (d1:Int) (d2:Int) (d3:Bs):Option (Sum (Int×Bs) (List TE0)):=
 bif(decide (d0.ab=4)) then
  (bif(decide (((d0.ac.length:Nat):Int)=d1)) then
   (some (.inr d0.ac))
  else
   some (.inl (d2,d3)))
 else
  some (.inl (d2,d3))
theorem eD (n:Nat) (M:Mem) (hG:GL M) (c0:Lv) (d0:TE0) (h0:Rep M (ai d0) c0) (d1:Int) (d2:Int) (d3:Bs) (r:Sum (Int×Bs) (List TE0)) (hF:gi n d0 d1 d2 d3=some r):OkX Tryz.prog M 78 [.agg c0.toArray,iL d1,iL d2,S d3] 78 r (λr=>λM' v=>∃ (A0:Oa) (k0:Nat),v=sL A0 r k0∧Sli M' 6 ai A0 k0 r):=by
 unfold gi at hF
 intro M1 hM0 w0 H w p0
 replace hG:=GL.mono hM0 hG
 replace h0:=Rep.mono hM0 _ _ h0
 obtain⟨Z1,P1,Z2,P2,rfl,B1,B2⟩:=TE0.opn h0
 refine Re 24 Tryz.func78 rfl λa0 f0=>RR (Y5 (cs:=(aTE0 d0 Z1 P1 Z2 P2)) (T:=26) f0 p0 λQ1 V1 W1 J1 R1 N1 _ f=>?_)
 have R2:=aU R1
 refine Ye f 1 λ_ f=>RR (Y f 1 λ_ f=>Y7 f N1 R2 0 rfl λ_ f=>Y f 2 λ_ f=>?_)
 rcases cE hF with⟨B3,F1⟩|⟨B3,F4⟩
 ·have f:=f.st 12 (cB B3)
  refine Y f 1 λ_ f=>Y7 f N1 R2 4 rfl λ_ f=>Y f 6 λ_ f=>?_
  rcases cE F1 with⟨B4,F2⟩|⟨B4,F3⟩
  ·have f:=f.st 18 (cB B4)
   refine Y9 f N1 (bA _ d2 d3) λW2 N2 _ f=>eT (RR (Y f 1 λ_ f=>Y7 f N2 R2 4 rfl λ_ f=>Ye f 1 λ_ f=>wp_ret (am f rfl (Lk 8 (sL Z1 d0.ac P1)) ?_)))
   cases sI F2
   exact⟨_,rfl,_,J1,N2.kr,⟨Z1,P1,rfl,B1.mo⟩⟩
  have f:=f.st 18 (cB B4)
  refine aN f N1 (bz _ d2 d3) kr (λ_=>by kernel_rfl) λV2 W3 J2 N3=>cj (aV f ?_)
  cases sI F3
  exact⟨V2,mL,N3,rfl⟩
 have f:=f.st 12 (cB B3)
 refine Y f 8 λ_ f=>aN f N1 (bz _ d2 d3) kr (λ_=>by kernel_rfl) λV3 W4 J3 N4=>cj (aV f ?_)
 cases sI F4
 exact⟨V3,mL,N4,rfl⟩
def jc (n:Nat) (d0:TE0) (d1:Bs):Option (Sum (Int×Bs) TG0):=
 (gi n d0 (2:Int) (121:Int) d1).bind λX1=>
 (match X1 with
 |.inl X2=>some (.inl X2)
 |.inr X3=>(((aB X3 (0:Int)).bind λX4=>
  (eE n X4).bind λX5=>
  bif X5 then
   ((aB X3 (1:Int)).bind λX6=>
   bif(decide (X6.ab=3)) then
    ((aB X3 (1:Int)).bind λX7=>
    (mD n X7.aa).bind λX8=>
    bif X8 then
     (some (.nx ()))
    else
     ((some (.inl ((121:Int),d1)):Option (Sum (Int×Bs) TG0))).map Lp.br)
   else
    ((some (.inl ((121:Int),d1)):Option (Sum (Int×Bs) TG0))).map Lp.br)
  else
   ((some (.inl ((121:Int),d1)):Option (Sum (Int×Bs) TG0))).map Lp.br:Option (Lp Unit (Sum (Int×Bs) TG0)))).bind λj=>joinF j λG1=>
  (aB X3 (0:Int)).bind λX9=>
  (aB X3 (1:Int)).bind λX10=>
  some (.inr (⟨(4:Int),([]:Bs),(0:Int),X9.aa,X10.aa,([]:List TG0)⟩:TG0)))
set_option maxRecDepth 20000 in
theorem lW (n:Nat) (M:Mem) (hG:GL M) (c0:Lv) (d0:TE0) (h0:Rep M (ai d0) c0) (d1:Bs) (r:Sum (Int×Bs) TG0) (hF:jc n d0 d1=some r):OkX Tryz.prog M 77 [.agg c0.toArray,S d1] 78 r (λr=>λM' v=>∃ (c0:Lv),v=.agg c0.toArray∧Rep M' (aA r) c0):=by
 unfold jc at hF
 intro M1 hM0 w0 H w p0
 replace hG:=GL.mono hM0 hG
 replace h0:=Rep.mono hM0 _ _ h0
 obtain⟨Z1,P1,Z2,P2,rfl,B1,B2⟩:=TE0.opn h0
 refine Re 38 Tryz.func77 rfl λa0 f0=>RR (Y5 (cs:=(aTE0 d0 Z1 P1 Z2 P2)) (T:=26) f0 p0 λQ1 V1 W1 J1 R1 N1 _ f=>?_)
 have R2:=aU R1
 refine Y4 f N1 (.cells #[iB 0,S [],iL 0,S [],S [],Sn] 31 (0,0)) λQ2 W2 N2 _ f=>eT (RR (Z f (XK N2 R2 0) λ_ f=>Y f 1 λ_ f=>?_))
 obtain⟨X1,l1,F1⟩:=bS hF
 rcases X1 with X2|X3
 ·refine aN f N2 (eD n _ hG.mo _ d0 h0.mo (2:Int) (121:Int) d1 (.inl X2) l1) kr (λ_=>by kernel_rfl) λV2 W3 J2 N3=>cj (aV f ?_)
  cases sI F1
  exact⟨V2,mL,(N3.dropN 1),rfl⟩
 refine Y8 f N2 (OkX.ok (eD n _ hG.mo _ d0 h0.mo (2:Int) (121:Int) d1 (.inr X3) l1)) λ_ V3 W4 J3 N4 ef _ f=>?_
 obtain⟨Z3,P3,rfl,B3⟩:=ef
 refine Ye f 1 λ_ f=>ah ?_
 obtain⟨eF,cL,F2⟩:=bS F1
 refine aW (λa_26 W11=>∃G1,eF=.nx G1∧∃V7,V3.le V7∧Frm 38 (kpL [4,5] f.fr) a_26∧Hp w0 V7 (N4.en) W11) ?_ ?_
 ·refine ay (Y f 1 λ_ f=>?_)
  obtain⟨X4,l2,F3⟩:=bS cL
  obtain⟨C1,dW,jC,D1,R3⟩:=N4.at_ B3 l2
  obtain⟨Z4,P4,Z5,P5,rfl,B4,B5⟩:=TE0.opn D1
  refine Z f (XI jC l2) λ_ f=>Z f (XK N4 R3 0) λ_ f=>?_
  obtain⟨X5,l3,F4⟩:=bS F3
  refine Y9 f N4 (gw n _ hG.mo _ X4 D1.mo X5 l3) λW5 N5 _ f=>Y f 1 λ_ f=>?_
  rcases cE F4 with⟨B6,F5⟩|⟨B6,F15⟩
  ·have f:=f.st 13 (cB B6)
   refine Y f 1 λ_ f=>?_
   obtain⟨X6,l4,F6⟩:=bS F5
   obtain⟨C2,ie,ly,D2,R4⟩:=N5.at_ B3 l4
   obtain⟨Z6,P6,Z7,P7,rfl,B7,B8⟩:=TE0.opn D2
   refine Z f (XI ly l4) λ_ f=>Y f 1 λ_ f=>Y7 f N5 R4 0 rfl λ_ f=>Y f 3 λ_ f=>?_
   rcases cE F6 with⟨B9,F7⟩|⟨B9,F13⟩
   ·have f:=f.st 20 (cB B9)
    refine Y f 1 λ_ f=>?_
    obtain⟨X7,l5,F8⟩:=bS F7
    obtain⟨C3,lQ,qm,D3,R5⟩:=N5.at_ B3 l5
    obtain⟨Z8,P8,Z9,P9,rfl,B10,B11⟩:=TE0.opn D3
    refine Z f (XI qm l5) λ_ f=>Y f 1 λ_ f=>Y7 f N5 R5 3 rfl λ_ f=>?_
    obtain⟨X8,l6,F9⟩:=bS F8
    refine Y9 f N5 (qW n _ hG.mo X7.aa X8 l6) λW6 N6 _ f=>Y f 2 λ_ f=>?_
    rcases cE F9 with⟨B12,F10⟩|⟨B12,F11⟩
    ·have f:=f.st 26 (cB B12)
     refine Y9 f N6 (bA _ (121:Int) d1) λW7 N7 _ f=>eT ?_
     exact⟨_,(sI F10).symm,_,mL,f.kp,N7.kr⟩
    have f:=f.st 26 (cB B12)
    refine aN f N6 (bz _ (121:Int) d1) kr (λ_=>by kernel_rfl) λV4 W8 J4 N8=>?_
    have F12:=bw F11 F2
    refine cj (cj (aV f ?_))
    cases sI F12
    exact⟨V4,mL,(N8.dropN 1),rfl⟩
   have f:=f.st 20 (cB B9)
   refine Y f 7 λ_ f=>aN f N5 (bz _ (121:Int) d1) kr (λ_=>by kernel_rfl) λV5 W9 J5 N9=>?_
   have F14:=bw F13 F2
   refine cj (cj (aV f ?_))
   cases sI F14
   exact⟨V5,mL,(N9.dropN 1),rfl⟩
  have f:=f.st 13 (cB B6)
  refine Y f 14 λ_ f=>aN f N5 (bz _ (121:Int) d1) kr (λ_=>by kernel_rfl) λV6 W10 J6 N10=>?_
  have F16:=bw F15 F2
  refine cj (cj (aV f ?_))
  cases sI F16
  exact⟨V6,mL,(N10.dropN 1),rfl⟩
 rintro a_26 W11 ⟨G1,rfl,V7,J7,f,N11⟩
 dsimp only[Hp.en] at N11
 refine az (ah (po 9 N11 kr kr λW12 N12=>cY (v:=sL Z3 X3 P3) f kr kr rfl rfl kr λ_ f=>?_))
 obtain⟨X9,l7,F17⟩:=bS F2
 obtain⟨C4,rJ,qn,D4,R6⟩:=N12.at_ B3 l7
 obtain⟨Z10,P10,Z11,P11,rfl,B13,B14⟩:=TE0.opn D4
 refine cY f kr kr rfl rfl (XI qn l7) λ_ f=>cY (v:=Pa ((C4.add ((0:Int).toNat*6)).add 3)) f kr kr rfl rfl kr λ_ f=>cY f kr kr rfl rfl (XK N12 R6 3) λ_ f=>cY (v:=sL Z3 X3 P3) f kr kr rfl rfl kr λ_ f=>?_
 obtain⟨X10,l8,F18⟩:=bS F17
 obtain⟨C5,c_5,e_5,D5,R7⟩:=N12.at_ B3 l8
 obtain⟨Z12,P12,Z13,P13,rfl,B15,B16⟩:=TE0.opn D5
 refine cY f kr kr rfl rfl (XI e_5 l8) λ_ f=>cY (v:=Pa ((C5.add ((1:Int).toNat*6)).add 3)) f kr kr rfl rfl kr λ_ f=>cY f kr kr rfl rfl (XK N12 R7 3) λ_ f=>cY (v:=.agg #[iB 4,S [],iL 0,S X9.aa,S X10.aa,Sn]) f kr kr rfl rfl kr λ_ f=>qi rfl (Wu f N12 0 0 [iB 4,S [],iL 0,S X9.aa,S X10.aa,Sn] λW13 N13 _ f=>Er (bM f rfl (Rv.oN [iB 4,S [],iL 0,S X9.aa,S X10.aa,Sn] f N13 0 0) ?_))
 cases sI F18
 exact⟨_,rfl,_,mL,(N13.dropN 1).kr,⟨_,rfl,(TG0.shutx Sli.nil)⟩⟩
def jd (n:Nat) (d0:TE0) (d1:Bs):Option (Sum (Int×Bs) TG0):=
 bif(decide (d0.ab=3)) then
  ((qd n d0.aa).bind λX1=>
  bif(decide (X1.2.2=0)) then
   (some (.inr (⟨(5:Int),([]:Bs),(0:Int),([]:Bs),([]:Bs),X1.1⟩:TG0)))
  else
   some (.inl (X1.2.2,d1)))
 else
  some (.inl ((121:Int),d1))
theorem lX (n:Nat) (M:Mem) (hG:GL M) (c0:Lv) (d0:TE0) (h0:Rep M (ai d0) c0) (d1:Bs) (r:Sum (Int×Bs) TG0) (hF:jd n d0 d1=some r):OkX Tryz.prog M 80 [.agg c0.toArray,S d1] 78 r (λr=>λM' v=>∃ (c0:Lv),v=.agg c0.toArray∧Rep M' (aA r) c0):=by
 unfold jd at hF
 intro M1 hM0 w0 H w p0
 replace hG:=GL.mono hM0 hG
 replace h0:=Rep.mono hM0 _ _ h0
 obtain⟨Z1,P1,Z2,P2,rfl,B1,B2⟩:=TE0.opn h0
 refine Re 27 Tryz.func80 rfl λa0 f0=>RR (Y5 (cs:=(aTE0 d0 Z1 P1 Z2 P2)) (T:=26) f0 p0 λQ1 V1 W1 J1 R1 N1 _ f=>?_)
 have R2:=aU R1
 refine Y4 f N1 (.cells #[iB 0,S [],iL 0,S [],S [],Sn] 31 (0,0)) λQ2 W2 N2 _ f=>eT (RR (Y f 1 λ_ f=>Y7 f N2 R2 0 rfl λ_ f=>Y f 2 λ_ f=>?_))
 rcases cE hF with⟨B3,F1⟩|⟨B3,F5⟩
 ·have f:=f.st 10 (cB B3)
  refine Y9 f N2 (bA _ (121:Int) d1) λW3 N3 _ f=>eT (RR (Y f 1 λ_ f=>Y7 f N3 R2 3 rfl λ_ f=>?_))
  obtain⟨X1,l1,F2⟩:=bS F1
  refine Ch f N3 (sub_Lex_ok n _ hG.mo d0.aa X1 l1) λ_ V2 mG W4 J2 N4 ef _ f=>?_
  obtain⟨Z3,P3,L1,rfl,rfl,D1⟩:=ef
  refine Ye f 7 λ_ f=>RR (Y f 4 λ_ f=>?_)
  rcases cE F2 with⟨B4,F3⟩|⟨B4,F4⟩
  ·have f:=f.st 21 (cB B4)
   refine Y9 f N4 (bA _ X1.2.2 d1) λW5 N5 _ f=>eT (RR (Y f 2 λ_ f=>?_))
   obtain⟨Z4,P4,V3,H1,J3,N6,B5⟩:=N5.rowSliK (f:=aA) (xs:=X1.1) 0 31 Z3 P3 bT D1
   have f:=Frm.set f 26 (v:=.agg #[.int .i8 5,S [],.int .i64 0,S [],S [],.slice Z3 X1.1.length P3]) (v':=.agg #[.int .i8 5,S [],.int .i64 0,S [],S [],.slice Z4 X1.1.length P4]) (by kernel_rfl) (by rw[H1])
   refine Wu f N6 0 0 [iB 5,S [],iL 0,S [],S [],sL Z4 X1.1 P4] λW6 N7 _ f=>Er (bM f rfl (Rv.oN [iB 5,S [],iL 0,S [],S [],sL Z4 X1.1 P4] f N7 0 0) ?_)
   cases sI F3
   exact⟨_,rfl,_,mL,(N7.dropN 1).kr,⟨_,rfl,(TG0.shutx B5)⟩⟩
  have f:=f.st 21 (cB B4)
  refine aN f N4 (bz _ X1.2.2 d1) kr (λ_=>by kernel_rfl) λV4 W7 J4 N8=>cj (aV f ?_)
  cases sI F4
  exact⟨V4,mL,(N8.dropN 2),rfl⟩
 have f:=f.st 10 (cB B3)
 refine aN f N2 (bz _ (121:Int) d1) kr (λ_=>by kernel_rfl) λV5 W8 J5 N9=>cj (aV f ?_)
 cases sI F5
 exact⟨V5,mL,(N9.dropN 1),rfl⟩
def je (n:Nat) (rec_syntax_expr:TE0→Bs→Option (Sum (Int×Bs) TG0)) (d0:TE0) (d1:Bs):Option (Sum (Int×Bs) TG0):=
 (gi n d0 (3:Int) (121:Int) d1).bind λX1=>
 (match X1 with
 |.inl X2=>some (.inl X2)
 |.inr X3=>(aB X3 (0:Int)).bind λX4=>
  (eE n X4).bind λX5=>
  bif X5 then
   ((aB X3 (0:Int)).bind λX6=>
   (eC n rec_syntax_expr X3 (1:Int) d1).bind λX7=>
   (match X7 with
   |.inl X8=>some (.inl X8)
   |.inr X9=>some (.inr (⟨(6:Int),([]:Bs),(0:Int),X6.aa,([]:Bs),X9⟩:TG0))))
  else
   some (.inl ((121:Int),d1)))
theorem lY (n:Nat) (rec_syntax_expr:TE0→Bs→Option (Sum (Int×Bs) TG0)) (hrec_syntax_expr: ∀ (M:Mem) (hG:GL M) (c0:Lv) (d0:TE0) (h0:Rep M (ai d0) c0) (d1:Bs) (r:Sum (Int×Bs) TG0) (hF:rec_syntax_expr d0 d1=some r),OkX Tryz.prog M 18 [.agg c0.toArray,S d1] 78 r (λr=>λM' v=>∃ (c0:Lv),v=.agg c0.toArray∧Rep M' (aA r) c0)) (M:Mem) (hG:GL M) (c0:Lv) (d0:TE0) (h0:Rep M (ai d0) c0) (d1:Bs) (r:Sum (Int×Bs) TG0) (hF:je n rec_syntax_expr d0 d1=some r):OkX Tryz.prog M 82 [.agg c0.toArray,S d1] 78 r (λr=>λM' v=>∃ (c0:Lv),v=.agg c0.toArray∧Rep M' (aA r) c0):=by
 unfold je at hF
 intro M1 hM0 w0 H w p0
 replace hG:=GL.mono hM0 hG
 replace h0:=Rep.mono hM0 _ _ h0
 obtain⟨Z1,P1,Z2,P2,rfl,B1,B2⟩:=TE0.opn h0
 refine Re 23 Tryz.func82 rfl λa0 f0=>RR (Y5 (cs:=(aTE0 d0 Z1 P1 Z2 P2)) (T:=26) f0 p0 λQ1 V1 W1 J1 R1 N1 _ f=>?_)
 have R2:=aU R1
 refine Y4 f N1 (.cells #[iB 0,S [],iL 0,S [],S [],Sn] 31 (0,0)) λQ2 W2 N2 _ f=>eT (RR (Z f (XK N2 R2 0) λ_ f=>Y f 1 λ_ f=>?_))
 obtain⟨X1,l1,F1⟩:=bS hF
 rcases X1 with X2|X3
 ·refine aN f N2 (eD n _ hG.mo _ d0 h0.mo (3:Int) (121:Int) d1 (.inl X2) l1) kr (λ_=>by kernel_rfl) λV2 W3 J2 N3=>cj (aV f ?_)
  cases sI F1
  exact⟨V2,mL,(N3.dropN 1),rfl⟩
 refine Y8 f N2 (OkX.ok (eD n _ hG.mo _ d0 h0.mo (3:Int) (121:Int) d1 (.inr X3) l1)) λ_ V3 W4 J3 N4 ef _ f=>?_
 obtain⟨Z3,P3,rfl,B3⟩:=ef
 refine Ye f 1 λ_ f=>RR (Y f 1 λ_ f=>?_)
 obtain⟨X4,l2,F2⟩:=bS F1
 obtain⟨C1,dW,jC,D1,R3⟩:=N4.at_ B3 l2
 obtain⟨Z4,P4,Z5,P5,rfl,B4,B5⟩:=TE0.opn D1
 refine Z f (XI jC l2) λ_ f=>Z f (XK N4 R3 0) λ_ f=>?_
 obtain⟨X5,l3,F3⟩:=bS F2
 refine Y9 f N4 (gw n _ hG.mo _ X4 D1.mo X5 l3) λW5 N5 _ f=>Y f 1 λ_ f=>?_
 rcases cE F3 with⟨B6,F4⟩|⟨B6,F7⟩
 ·have f:=f.st 12 (cB B6)
  refine Y9 f N5 (bA _ (121:Int) d1) λW6 N6 _ f=>eT (ah (cu 1 [(0,true),(1,true),(2,true),(3,true),(4,true),(5,true),(6,false),(7,true),(8,false)] N6 (Y0 default f 1 λ_ f=>?_)))
  obtain⟨X6,l4,F5⟩:=bS F4
  obtain⟨C2,ie,ly,D2,R4⟩:=Sli.aM V3 B3 l4
  obtain⟨Z6,P6,Z7,P7,rfl,B7,B8⟩:=TE0.opn D2
  refine bG f kr kr rfl rfl (λ_ pq=>XI ly l4) λ_ f=>Y0 default f 1 λ_ f=>bG f kr kr rfl rfl (λ_ pq=>XK pq R4 3) λ_ f=>Y0 default f 2 λ_ f=>bI λW7 N7=>?_
  obtain⟨X7,l5,F6⟩:=bS F5
  rcases X7 with X8|X9
  ·refine Cx f N7 (dj n rec_syntax_expr hrec_syntax_expr _ hG.mo Z3 P3 X3 B3 (1:Int) d1 (.inl X8) l5) λV4 W8 J4 N8=>pm f λ_ f=>cj (aV f ?_)
   cases sI F6
   exact⟨V4,mL,(N8.dropN 1),rfl⟩
  refine Ch f N7 (OkXH.ok (dj n rec_syntax_expr hrec_syntax_expr _ hG.mo Z3 P3 X3 B3 (1:Int) d1 (.inr X9) l5)) λ_ V5 mG W9 J5 N9 iK _ f=>?_
  obtain⟨Z8,P8,L1,rfl,rfl,D3⟩:=iK
  refine ag rfl (bL 2 J5 N9 (Y0 default f 1 λ_ f=>bI λW10 N10=>?_))
  obtain⟨Z9,P9,V6,H1,J6,N11,B9⟩:=N10.rowSliK (f:=aA) (xs:=X9) 0 31 Z8 P8 bT D3
  have f:=Frm.set f 22 (v:=.agg #[.int .i8 6,S [],.int .i64 0,S X6.aa,S [],.slice Z8 X9.length P8]) (v':=.agg #[.int .i8 6,S [],.int .i64 0,S X6.aa,S [],.slice Z9 X9.length P9]) (by kernel_rfl) (by rw[H1])
  refine Wu f N11 0 0 [iB 6,S [],iL 0,S X6.aa,S [],sL Z9 X9 P9] λW11 N12 _ f=>ag rfl (bL 1 mL N12 (dx rfl λW12 N13=>az (wp_ret (bM f rfl (Rv.oN [iB 6,S [],iL 0,S X6.aa,S [],sL Z9 X9 P9] f N13 0 0) ?_))))
  cases sI F6
  exact⟨_,rfl,_,mL,(N13.dropN 1).kr,⟨_,rfl,(TG0.shutx B9)⟩⟩
 have f:=f.st 12 (cB B6)
 refine aN f N5 (bz _ (121:Int) d1) kr (λ_=>by kernel_rfl) λV7 W13 J7 N14=>cj (aV f ?_)
 cases sI F7
 exact⟨V7,mL,(N14.dropN 1),rfl⟩
def jf (n:Nat) (rec_syntax_expr:TE0→Bs→Option (Sum (Int×Bs) TG0)) (d0:TE0) (d1:Bs):Option (Sum (Int×Bs) TG0):=
 (gi n d0 (2:Int) (121:Int) d1).bind λX1=>
 (match X1 with
 |.inl X2=>some (.inl X2)
 |.inr X3=>(aB X3 (0:Int)).bind λX4=>
  (gj n X4).bind λX5=>
  bif X5 then
   ((aB X3 (0:Int)).bind λX6=>
   (eC n rec_syntax_expr X3 (1:Int) d1).bind λX7=>
   (match X7 with
   |.inl X8=>some (.inl X8)
   |.inr X9=>some (.inr (⟨(7:Int),X6.aa,(0:Int),([]:Bs),([]:Bs),X9⟩:TG0))))
  else
   some (.inl ((121:Int),d1)))
theorem lZ (n:Nat) (rec_syntax_expr:TE0→Bs→Option (Sum (Int×Bs) TG0)) (hrec_syntax_expr: ∀ (M:Mem) (hG:GL M) (c0:Lv) (d0:TE0) (h0:Rep M (ai d0) c0) (d1:Bs) (r:Sum (Int×Bs) TG0) (hF:rec_syntax_expr d0 d1=some r),OkX Tryz.prog M 18 [.agg c0.toArray,S d1] 78 r (λr=>λM' v=>∃ (c0:Lv),v=.agg c0.toArray∧Rep M' (aA r) c0)) (M:Mem) (hG:GL M) (c0:Lv) (d0:TE0) (h0:Rep M (ai d0) c0) (d1:Bs) (r:Sum (Int×Bs) TG0) (hF:jf n rec_syntax_expr d0 d1=some r):OkX Tryz.prog M 83 [.agg c0.toArray,S d1] 78 r (λr=>λM' v=>∃ (c0:Lv),v=.agg c0.toArray∧Rep M' (aA r) c0):=by
 unfold jf at hF
 intro M1 hM0 w0 H w p0
 replace hG:=GL.mono hM0 hG
 replace h0:=Rep.mono hM0 _ _ h0
 obtain⟨Z1,P1,Z2,P2,rfl,B1,B2⟩:=TE0.opn h0
 refine Re 23 Tryz.func83 rfl λa0 f0=>RR (Y5 (cs:=(aTE0 d0 Z1 P1 Z2 P2)) (T:=26) f0 p0 λQ1 V1 W1 J1 R1 N1 _ f=>?_)
 have R2:=aU R1
 refine Y4 f N1 (.cells #[iB 0,S [],iL 0,S [],S [],Sn] 31 (0,0)) λQ2 W2 N2 _ f=>eT (RR (Z f (XK N2 R2 0) λ_ f=>Y f 1 λ_ f=>?_))
 obtain⟨X1,l1,F1⟩:=bS hF
 rcases X1 with X2|X3
 ·refine aN f N2 (eD n _ hG.mo _ d0 h0.mo (2:Int) (121:Int) d1 (.inl X2) l1) kr (λ_=>by kernel_rfl) λV2 W3 J2 N3=>cj (aV f ?_)
  cases sI F1
  exact⟨V2,mL,(N3.dropN 1),rfl⟩
 refine Y8 f N2 (OkX.ok (eD n _ hG.mo _ d0 h0.mo (2:Int) (121:Int) d1 (.inr X3) l1)) λ_ V3 W4 J3 N4 ef _ f=>?_
 obtain⟨Z3,P3,rfl,B3⟩:=ef
 refine Ye f 1 λ_ f=>RR (Y f 1 λ_ f=>?_)
 obtain⟨X4,l2,F2⟩:=bS F1
 obtain⟨C1,dW,jC,D1,R3⟩:=N4.at_ B3 l2
 obtain⟨Z4,P4,Z5,P5,rfl,B4,B5⟩:=TE0.opn D1
 refine Z f (XI jC l2) λ_ f=>Z f (XK N4 R3 0) λ_ f=>?_
 obtain⟨X5,l3,F3⟩:=bS F2
 refine Y9 f N4 (gY n _ hG.mo _ X4 D1.mo X5 l3) λW5 N5 _ f=>Y f 1 λ_ f=>?_
 rcases cE F3 with⟨B6,F4⟩|⟨B6,F7⟩
 ·have f:=f.st 12 (cB B6)
  refine Y9 f N5 (bA _ (121:Int) d1) λW6 N6 _ f=>eT (ah (cu 1 [(0,true),(1,true),(2,true),(3,true),(4,true),(5,true),(6,false),(7,true),(8,false)] N6 (Y0 default f 1 λ_ f=>?_)))
  obtain⟨X6,l4,F5⟩:=bS F4
  obtain⟨C2,ie,ly,D2,R4⟩:=Sli.aM V3 B3 l4
  obtain⟨Z6,P6,Z7,P7,rfl,B7,B8⟩:=TE0.opn D2
  refine bG f kr kr rfl rfl (λ_ pq=>XI ly l4) λ_ f=>Y0 default f 1 λ_ f=>bG f kr kr rfl rfl (λ_ pq=>XK pq R4 3) λ_ f=>Y0 default f 2 λ_ f=>bI λW7 N7=>?_
  obtain⟨X7,l5,F6⟩:=bS F5
  rcases X7 with X8|X9
  ·refine Cx f N7 (dj n rec_syntax_expr hrec_syntax_expr _ hG.mo Z3 P3 X3 B3 (1:Int) d1 (.inl X8) l5) λV4 W8 J4 N8=>pm f λ_ f=>cj (aV f ?_)
   cases sI F6
   exact⟨V4,mL,(N8.dropN 1),rfl⟩
  refine Ch f N7 (OkXH.ok (dj n rec_syntax_expr hrec_syntax_expr _ hG.mo Z3 P3 X3 B3 (1:Int) d1 (.inr X9) l5)) λ_ V5 mG W9 J5 N9 iK _ f=>?_
  obtain⟨Z8,P8,L1,rfl,rfl,D3⟩:=iK
  refine ag rfl (bL 2 J5 N9 (Y0 default f 1 λ_ f=>bI λW10 N10=>?_))
  obtain⟨Z9,P9,V6,H1,J6,N11,B9⟩:=N10.rowSliK (f:=aA) (xs:=X9) 0 31 Z8 P8 bT D3
  have f:=Frm.set f 22 (v:=.agg #[.int .i8 7,S X6.aa,.int .i64 0,S [],S [],.slice Z8 X9.length P8]) (v':=.agg #[.int .i8 7,S X6.aa,.int .i64 0,S [],S [],.slice Z9 X9.length P9]) (by kernel_rfl) (by rw[H1])
  refine Wu f N11 0 0 [iB 7,S X6.aa,iL 0,S [],S [],sL Z9 X9 P9] λW11 N12 _ f=>ag rfl (bL 1 mL N12 (dx rfl λW12 N13=>az (wp_ret (bM f rfl (Rv.oN [iB 7,S X6.aa,iL 0,S [],S [],sL Z9 X9 P9] f N13 0 0) ?_))))
  cases sI F6
  exact⟨_,rfl,_,mL,(N13.dropN 1).kr,⟨_,rfl,(TG0.shutx B9)⟩⟩
 have f:=f.st 12 (cB B6)
 refine aN f N5 (bz _ (121:Int) d1) kr (λ_=>by kernel_rfl) λV7 W13 J7 N14=>cj (aV f ?_)
 cases sI F7
 exact⟨V7,mL,(N14.dropN 1),rfl⟩
def jg (n:Nat) (rec_syntax_expr:TE0→Bs→Option (Sum (Int×Bs) TG0)) (d0:TE0) (d1:Bs):Option (Sum (Int×Bs) TG0):=
 (gi n d0 (2:Int) (121:Int) d1).bind λX1=>
 (match X1 with
 |.inl X2=>some (.inl X2)
 |.inr X3=>(eC n rec_syntax_expr X3 (0:Int) d1).bind λX4=>
  (match X4 with
  |.inl X5=>some (.inl X5)
  |.inr X6=>some (.inr (⟨(8:Int),([]:Bs),(0:Int),([]:Bs),([]:Bs),X6⟩:TG0))))
theorem ma (n:Nat) (rec_syntax_expr:TE0→Bs→Option (Sum (Int×Bs) TG0)) (hrec_syntax_expr: ∀ (M:Mem) (hG:GL M) (c0:Lv) (d0:TE0) (h0:Rep M (ai d0) c0) (d1:Bs) (r:Sum (Int×Bs) TG0) (hF:rec_syntax_expr d0 d1=some r),OkX Tryz.prog M 18 [.agg c0.toArray,S d1] 78 r (λr=>λM' v=>∃ (c0:Lv),v=.agg c0.toArray∧Rep M' (aA r) c0)) (M:Mem) (hG:GL M) (c0:Lv) (d0:TE0) (h0:Rep M (ai d0) c0) (d1:Bs) (r:Sum (Int×Bs) TG0) (hF:jg n rec_syntax_expr d0 d1=some r):OkX Tryz.prog M 84 [.agg c0.toArray,S d1] 78 r (λr=>λM' v=>∃ (c0:Lv),v=.agg c0.toArray∧Rep M' (aA r) c0):=by
 unfold jg at hF
 intro M1 hM0 w0 H w p0
 replace hG:=GL.mono hM0 hG
 replace h0:=Rep.mono hM0 _ _ h0
 obtain⟨Z1,P1,Z2,P2,rfl,B1,B2⟩:=TE0.opn h0
 refine Re 11 Tryz.func84 rfl λa0 f0=>RR (Y5 (cs:=(aTE0 d0 Z1 P1 Z2 P2)) (T:=26) f0 p0 λQ1 V1 W1 J1 R1 N1 _ f=>?_)
 have R2:=aU R1
 refine Y4 f N1 (.cells #[iB 0,S [],iL 0,S [],S [],Sn] 31 (0,0)) λQ2 W2 N2 _ f=>eT (RR (Z f (XK N2 R2 0) λ_ f=>Y f 1 λ_ f=>?_))
 obtain⟨X1,l1,F1⟩:=bS hF
 rcases X1 with X2|X3
 ·refine aN f N2 (eD n _ hG.mo _ d0 h0.mo (2:Int) (121:Int) d1 (.inl X2) l1) kr (λ_=>by kernel_rfl) λV2 W3 J2 N3=>cj (aV f ?_)
  cases sI F1
  exact⟨V2,mL,(N3.dropN 1),rfl⟩
 refine Y8 f N2 (OkX.ok (eD n _ hG.mo _ d0 h0.mo (2:Int) (121:Int) d1 (.inr X3) l1)) λ_ V3 W4 J3 N4 ef _ f=>?_
 obtain⟨Z3,P3,rfl,B3⟩:=ef
 refine Y f 1 λ_ f=>?_
 obtain⟨X4,l2,F2⟩:=bS F1
 rcases X4 with X5|X6
 ·refine Cx f N4 (dj n rec_syntax_expr hrec_syntax_expr _ hG.mo Z3 P3 X3 B3 (0:Int) d1 (.inl X5) l2) λV4 W5 J4 N5=>cj (aV f ?_)
  cases sI F2
  exact⟨V4,mL,(N5.dropN 1),rfl⟩
 refine Ch f N4 (OkXH.ok (dj n rec_syntax_expr hrec_syntax_expr _ hG.mo Z3 P3 X3 B3 (0:Int) d1 (.inr X6) l2)) λ_ V5 mG W6 J5 N6 iK _ f=>?_
 obtain⟨Z4,P4,L1,rfl,rfl,D1⟩:=iK
 refine Y f 1 λ_ f=>?_
 obtain⟨Z5,P5,V6,H1,J6,N7,B4⟩:=N6.rowSliK (f:=aA) (xs:=X6) 0 31 Z4 P4 bT D1
 have f:=Frm.set f 10 (v:=.agg #[.int .i8 8,S [],.int .i64 0,S [],S [],.slice Z4 X6.length P4]) (v':=.agg #[.int .i8 8,S [],.int .i64 0,S [],S [],.slice Z5 X6.length P5]) (by kernel_rfl) (by rw[H1])
 refine Wu f N7 0 0 [iB 8,S [],iL 0,S [],S [],sL Z5 X6 P5] λW7 N8 _ f=>Er (bM f rfl (Rv.oN [iB 8,S [],iL 0,S [],S [],sL Z5 X6 P5] f N8 0 0) ?_)
 cases sI F2
 exact⟨_,rfl,_,mL,(N8.dropN 1).kr,⟨_,rfl,(TG0.shutx B4)⟩⟩
def jM (n:Nat) (rec_syntax_expr:TE0→Bs→Option (Sum (Int×Bs) TG0)) (d0:TE0) (d1:Bs):Option (Sum (Int×Bs) TG0):=
 bif(decide (d0.ab=3)) then
  ((gj n d0).bind λX1=>
  bif X1 then
   (some (.inr (⟨(0:Int),d0.aa,(0:Int),([]:Bs),([]:Bs),([]:List TG0)⟩:TG0)))
  else
   some (.inl ((121:Int),d1)))
 else
  bif(decide (d0.ab=2)) then
   (some (.inr (⟨(1:Int),([]:Bs),d0.ak,([]:Bs),([]:Bs),([]:List TG0)⟩:TG0)))
  else
   bif(decide (d0.ab=4)) then
    (bif(decide (((d0.ac.length:Nat):Int)≤8)) then
     ((eC n rec_syntax_expr d0.ac (0:Int) d1).bind λX2=>
     (match X2 with
     |.inl X3=>some (.inl X3)
     |.inr X4=>some (.inr (⟨(2:Int),([]:Bs),(0:Int),([]:Bs),([]:Bs),X4⟩:TG0))))
    else
     some (.inl ((3:Int),d1)))
   else
    ((bif(decide (d0.ab=5)) then
     (bif(decide (((d0.af.length:Nat):Int)=1)) then
      (some (.nx ()))
     else
      ((some (.inl ((121:Int),d1)):Option (Sum (Int×Bs) TG0))).map Lp.br)
      else
       ((some (.inl ((121:Int),d1)):Option (Sum (Int×Bs) TG0))).map Lp.br:Option (Lp Unit (Sum (Int×Bs) TG0)))).bind λj=>joinF j λG1=>
    (aB d0.af (0:Int)).bind λX5=>
    (ll n).bind λX6=>
    bif(decide (X5=[82,101,102])) then
     ((aT n d1 X5).bind λX7=>
     (aB d0.ac (0:Int)).bind λX8=>
     (aT n d1 X5).bind λX9=>
     (jb n X8 X9).bind λX10=>
     (match X10 with
     |.inl X11=>some (.inl X11)
     |.inr X12=>some (.inr X12)))
    else
     bif(decide (X5=[71,101,116,65,116,116])) then
      ((aT n d1 X5).bind λX13=>
      (aB d0.ac (0:Int)).bind λX14=>
      (aT n d1 X5).bind λX15=>
      (jc n X14 X15).bind λX16=>
      (match X16 with
      |.inl X17=>some (.inl X17)
      |.inr X18=>some (.inr X18)))
     else
      bif(decide (X5=[83,117,98])) then
       ((aT n d1 X5).bind λX19=>
       (aB d0.ac (0:Int)).bind λX20=>
       (aT n d1 X5).bind λX21=>
       (jd n X20 X21).bind λX22=>
       (match X22 with
       |.inl X23=>some (.inl X23)
       |.inr X24=>some (.inr X24)))
      else
       bif(decide (X5=[73,102])) then
        ((aT n d1 X5).bind λX25=>
        (aB d0.ac (0:Int)).bind λX26=>
        (aT n d1 X5).bind λX27=>
        (je n rec_syntax_expr X26 X27).bind λX28=>
        (match X28 with
        |.inl X29=>some (.inl X29)
        |.inr X30=>some (.inr X30)))
       else
        bif(decide (X5=[74,111,105,110])) then
         ((aT n d1 X5).bind λX31=>
         (aB d0.ac (0:Int)).bind λX32=>
         (aT n d1 X5).bind λX33=>
         (jf n rec_syntax_expr X32 X33).bind λX34=>
         (match X34 with
         |.inl X35=>some (.inl X35)
         |.inr X36=>some (.inr X36)))
        else
         bif(decide (X5=[83,101,108,101,99,116])) then
          ((aT n d1 X5).bind λX37=>
          (aB d0.ac (0:Int)).bind λX38=>
          (aT n d1 X5).bind λX39=>
          (jg n rec_syntax_expr X38 X39).bind λX40=>
          (match X40 with
          |.inl X41=>some (.inl X41)
          |.inr X42=>some (.inr X42)))
         else
          (aT n d1 X5).bind λX43=>
          some (.inl ((121:Int),X43))
set_option maxRecDepth 20000 in
theorem qH (n:Nat) (rec_syntax_expr:TE0→Bs→Option (Sum (Int×Bs) TG0)) (hrec_syntax_expr: ∀ (M:Mem) (hG:GL M) (c0:Lv) (d0:TE0) (h0:Rep M (ai d0) c0) (d1:Bs) (r:Sum (Int×Bs) TG0) (hF:rec_syntax_expr d0 d1=some r),OkX Tryz.prog M 18 [.agg c0.toArray,S d1] 78 r (λr=>λM' v=>∃ (c0:Lv),v=.agg c0.toArray∧Rep M' (aA r) c0)) (M:Mem) (hG:GL M) (c0:Lv) (d0:TE0) (h0:Rep M (ai d0) c0) (d1:Bs) (r:Sum (Int×Bs) TG0) (hF:jM n rec_syntax_expr d0 d1=some r):OkX Tryz.prog M 18 [.agg c0.toArray,S d1] 78 r (λr=>λM' v=>∃ (c0:Lv),v=.agg c0.toArray∧Rep M' (aA r) c0):=by
 unfold jM at hF
 intro M1 hM0 w0 H w p0
 replace hG:=GL.mono hM0 hG
 replace h0:=Rep.mono hM0 _ _ h0
 obtain⟨Z1,P1,Z2,P2,rfl,B1,B2⟩:=TE0.opn h0
 refine Re 72 Tryz.func18 rfl λa0 f0=>RR (Y5 (cs:=(aTE0 d0 Z1 P1 Z2 P2)) (T:=26) f0 p0 λQ1 V1 W1 J1 R1 N1 _ f=>?_)
 have R2:=aU R1
 refine Y4 f N1 (.cells #[iB 0,S [],iL 0,S [],S [],Sn] 31 (0,0)) λQ2 W2 N2 _ f=>eT (ah (RR (Y f 1 λ_ f=>Y7 f N2 R2 0 rfl λ_ f=>eT (wp_block (RR (Ye f 2 λ_ f=>RcF f hF (λB3 F1=>?_) λB3 F5=>?_))))))
 ·refine RR (Z f (XK N2 R2 0) λ_ f=>?_)
  obtain⟨X1,l1,F2⟩:=bS F1
  refine Y9 f N2 (gY n _ hG.mo _ d0 h0.mo X1 l1) λW3 N3 _ f=>Y f 1 λ_ f=>?_
  rcases cE F2 with⟨B4,F3⟩|⟨B4,F4⟩
  ·have f:=f.st 13 (cB B4)
   refine Y9 f N3 (bA _ (121:Int) d1) λW4 N4 _ f=>eT (RR (Y f 1 λ_ f=>Y7 f N4 R2 3 rfl λ_ f=>Y f 1 λ_ f=>Wu f N4 0 0 [iB 0,S d0.aa,iL 0,S [],S [],Sn] λW5 N5 _ f=>Er (eu (bl (bM f rfl (Rv.oN [iB 0,S d0.aa,iL 0,S [],S [],Sn] f N5 0 0) ?_)))))
   cases sI F3
   exact⟨_,rfl,_,J1,(N5.dropN 1).kr,⟨_,rfl,(TG0.shutx Sli.nil)⟩⟩
  have f:=f.st 13 (cB B4)
  refine aN f N3 (bz _ (121:Int) d1) kr (λ_=>by kernel_rfl) λV2 W6 J2 N6=>cj (oP (cj (aV f ?_)))
  cases sI F4
  exact⟨V2,mL,(N6.dropN 1),rfl⟩
 refine RR (Ye f 2 λ_ f=>RcF f F5 (λB5 F6=>?_) λB5 F7=>?_)
 ·refine RR (Y f 1 λ_ f=>Y7 f N2 R2 2 rfl λ_ f=>Y f 1 λ_ f=>Wu f N2 0 0 [iB 1,S [],iL d0.ak,S [],S [],Sn] λW7 N7 _ f=>Er (eu (bl (bM f rfl (Rv.oN [iB 1,S [],iL d0.ak,S [],S [],Sn] f N7 0 0) ?_))))
  cases sI F6
  exact⟨_,rfl,_,J1,(N7.dropN 1).kr,⟨_,rfl,(TG0.shutx Sli.nil)⟩⟩
 refine RR (Ye f 2 λ_ f=>RcF f F7 (λB6 F8=>?_) λB6 F12=>?_)
 ·refine RR (Y f 1 λ_ f=>Y7 f N2 R2 4 rfl λ_ f=>Y f 3 λ_ f=>?_)
  rcases cE F8 with⟨B7,F9⟩|⟨B7,F11⟩
  ·have f:=f.st 29 (cB B7)
   refine Y9 f N2 (bA _ (3:Int) d1) λW8 N8 _ f=>eT (RR (Y f 1 λ_ f=>Y7 f N8 R2 4 rfl λ_ f=>Y f 1 λ_ f=>?_))
   obtain⟨X2,l2,F10⟩:=bS F9
   rcases X2 with X3|X4
   ·refine Cx f N8 (dj n rec_syntax_expr hrec_syntax_expr _ hG.mo Z1 P1 d0.ac B1.mo (0:Int) d1 (.inl X3) l2) λV3 W9 J3 N9=>cj (oP (cj (aV f ?_)))
    cases sI F10
    exact⟨V3,mL,(N9.dropN 1),rfl⟩
   refine Ch f N8 (OkXH.ok (dj n rec_syntax_expr hrec_syntax_expr _ hG.mo Z1 P1 d0.ac B1.mo (0:Int) d1 (.inr X4) l2)) λ_ V4 mG W10 J4 N10 ef _ f=>?_
   obtain⟨Z3,P3,L1,rfl,rfl,D1⟩:=ef
   refine Y f 1 λ_ f=>?_
   obtain⟨Z4,P4,V5,H1,J5,N11,B8⟩:=N10.rowSliK (f:=aA) (xs:=X4) 0 31 Z3 P3 bT D1
   have f:=Frm.set f 36 (v:=.agg #[.int .i8 2,S [],.int .i64 0,S [],S [],.slice Z3 X4.length P3]) (v':=.agg #[.int .i8 2,S [],.int .i64 0,S [],S [],.slice Z4 X4.length P4]) (by kernel_rfl) (by rw[H1])
   refine Wu f N11 0 0 [iB 2,S [],iL 0,S [],S [],sL Z4 X4 P4] λW11 N12 _ f=>Er (eu (bl (bM f rfl (Rv.oN [iB 2,S [],iL 0,S [],S [],sL Z4 X4 P4] f N12 0 0) ?_)))
   cases sI F10
   exact⟨_,rfl,_,mL,(N12.dropN 1).kr,⟨_,rfl,(TG0.shutx B8)⟩⟩
  have f:=f.st 29 (cB B7)
  refine aN f N2 (bz _ (3:Int) d1) kr (λ_=>by kernel_rfl) λV6 W12 J6 N13=>cj (oP (cj (aV f ?_)))
  cases sI F11
  exact⟨V6,mL,(N13.dropN 1),rfl⟩
 refine wp_skip (ec (az (ah ?_)))
 obtain⟨eF,cL,F13⟩:=bS F12
 refine aW (λa_38 W16=>∃G1,eF=.nx G1∧∃V9,V1.le V9∧Frm 72 (kpL [1,2,4] f.fr) a_38∧Hp w0 V9 (N2.en) W16) ?_ ?_
 ·refine ay (Y f 1 λ_ f=>Y7 f N2 R2 0 rfl λ_ f=>Y f 2 λ_ f=>?_)
  rcases cE cL with⟨B9,F14⟩|⟨B9,F18⟩
  ·have f:=f.st 40 (cB B9)
   refine Y f 1 λ_ f=>Y7 f N2 R2 5 rfl λ_ f=>Y f 4 λ_ f=>?_
   rcases cE F14 with⟨B10,F15⟩|⟨B10,F16⟩
   ·have f:=f.st 45 (cB B10)
    refine Y9 f N2 (bA _ (121:Int) d1) λW13 N14 _ f=>eT ?_
    exact⟨_,(sI F15).symm,_,mL,f.kp,N14.kr⟩
   have f:=f.st 45 (cB B10)
   refine aN f N2 (bz _ (121:Int) d1) kr (λ_=>by kernel_rfl) λV7 W14 J7 N15=>?_
   have F17:=bw F16 F13
   refine cj (cj (aV f ?_))
   cases sI F17
   exact⟨V7,mL,(N15.dropN 1),rfl⟩
  have f:=f.st 40 (cB B9)
  refine Y f 6 λ_ f=>aN f N2 (bz _ (121:Int) d1) kr (λ_=>by kernel_rfl) λV8 W15 J8 N16=>?_
  have F19:=bw F18 F13
  refine cj (cj (aV f ?_))
  cases sI F19
  exact⟨V8,mL,(N16.dropN 1),rfl⟩
 rintro a_38 W16 ⟨G1,rfl,V9,J9,f,N17⟩
 dsimp only[Hp.en] at N17
 refine az (RR (Y f 1 λ_ f=>Y7 f N17 (fu R2) 5 rfl λ_ f=>?_))
 obtain⟨X5,l3,F20⟩:=bS F13
 obtain⟨C1,dW,jC,D2,R3⟩:=N17.at_ B2 l3
 obtain rfl:dW=[S X5]:=D2
 refine Z f (XI jC l3) λ_ f=>Y7 f N17 R3 0 rfl λ_ f=>Ye f 1 λ_ f=>RR ?_
 obtain⟨X6,l4,F21⟩:=bS F20
 refine Y8 f N17 (rk n _ X6 l4) λ_ V10 W17 J10 N18 iK _ f=>?_
 obtain⟨bk_1,rfl,hz_1⟩:=iK
 refine Y f 1 λ_ f=>?_
 obtain rfl:X6=callL:=sI (l4.symm.trans (ti n))
 refine Z (v:=.tuple #[fnV ((ew callL X5).getD none),bO (ew callL X5).isSome]) f (X_lookup2 (ek:=S) (ev:=fnV) (m:=callL) (k:=X5) (z:=none) (kt:=9) (et:=51) rfl kr kr kr (strKey kr) kr (N18.mem _ _ hz_1)) λ_ f=>?_
 rcases cE F21 with⟨B11,F22⟩|⟨B11,F27⟩
 ·have ly:=of_decide_eq_true B11
  have f:=Frm.set f 55 (v:=.tuple #[fnV ((ew callL X5).getD none),.bool (ew callL X5).isSome]) (v':=.tuple #[.func (.func 75) #[] #[],.bool true]) (by kernel_rfl) (by rw[ly];rfl)
  refine Ye f 5 λ_ f=>RR (Y f 3 λ_ f=>?_)
  obtain⟨X7,l5,F23⟩:=bS F22
  refine Y9 f N18 (aR n _ hG.mo d1 X5 X7 l5) λW18 N19 _ f=>Y9 f N19 (bA _ (121:Int) X7) λW19 N20 _ f=>eT (ah (cu 1 [(0,true),(1,true),(2,true),(3,true),(4,true),(5,true),(6,true),(7,true),(8,false),(9,false)] N20 (Y0 default f 2 λ_ f=>bG f kr kr rfl rfl (λ_ pq=>XK pq (fu R2) 4) λ_ f=>?_)))
  obtain⟨X8,l6,F24⟩:=bS F23
  obtain⟨C2,ie,qm,D3,R4⟩:=Sli.aM V10 B1 l6
  obtain⟨Z5,P5,Z6,P6,rfl,B12,B13⟩:=TE0.opn D3
  refine bG f kr kr rfl rfl (λ_ pq=>XI qm l6) λ_ f=>bG f kr kr rfl rfl (λ_ pq=>XK pq R4 0) λ_ f=>Y0 default f 2 λ_ f=>?_
  obtain⟨X9,l7,F25⟩:=bS F24
  refine eR (v:=S X9) f kr kr rfl rfl (λ_=>by kernel_rfl) (aR n _ hG.mo d1 X5 X9 l7) λ_ f=>bI λW21 N22=>?_
  obtain⟨X10,l8,F26⟩:=bS F25
  rcases X10 with X11|X12
  ·refine aN f N22 (lV n _ hG.mo _ X8 D3.mo X9 (.inl X11) l8) kr (λ_=>by kernel_rfl) λV11 W22 J11 N23=>pm f λ_ f=>cj (aV f ?_)
   cases sI F26
   exact⟨V11,mL,(N23.dropN 1),rfl⟩
  refine Y8 f N22 (OkX.ok (lV n _ hG.mo _ X8 D3.mo X9 (.inr X12) l8)) λ_ V12 W23 J12 N24 mi _ f=>?_
  obtain⟨lQ,rfl,D4⟩:=mi
  obtain⟨Z7,P7,rfl,B14⟩:=TG0.opn D4
  refine ag rfl (bL 1 J12 N24 (bI λW24 N25=>Wu f N25 0 0 (lTG0 X12 Z7 P7) λW25 N26 _ f=>ag rfl (bL 1 J12 N26 (dx rfl λW26 N27=>az (wp_ret (bM f rfl (Rv.oN (lTG0 X12 Z7 P7) f N27 0 0) ?_))))))
  cases sI F26
  exact⟨_,rfl,_,mL,(N27.dropN 1).kr,⟨_,rfl,D4.mo⟩⟩
 have qn:=of_decide_eq_false B11
 rcases cE F27 with⟨B15,F28⟩|⟨B15,F33⟩
 ·have e_5:=of_decide_eq_true B15
  have f:=Frm.set f 55 (v:=.tuple #[fnV ((ew callL X5).getD none),.bool (ew callL X5).isSome]) (v':=.tuple #[.func (.func 77) #[] #[],.bool true]) (by kernel_rfl) (by rw[e_5];rfl)
  refine Ye f 5 λ_ f=>RR (Y f 3 λ_ f=>?_)
  obtain⟨X13,l9,F29⟩:=bS F28
  refine Y9 f N18 (aR n _ hG.mo d1 X5 X13 l9) λW27 N28 _ f=>Y9 f N28 (bA _ (121:Int) X13) λW28 N29 _ f=>eT (ah (cu 1 [(0,true),(1,true),(2,true),(3,true),(4,true),(5,true),(6,true),(7,true),(8,false),(9,false)] N29 (Y0 default f 2 λ_ f=>bG f kr kr rfl rfl (λ_ pq=>XK pq (fu R2) 4) λ_ f=>?_)))
  obtain⟨X14,l10,F30⟩:=bS F29
  obtain⟨C3,rJ,e_6,D5,R5⟩:=Sli.aM V10 B1 l10
  obtain⟨Z8,P8,Z9,P9,rfl,B16,B17⟩:=TE0.opn D5
  refine bG f kr kr rfl rfl (λ_ pq=>XI e_6 l10) λ_ f=>bG f kr kr rfl rfl (λ_ pq=>XK pq R5 0) λ_ f=>Y0 default f 2 λ_ f=>?_
  obtain⟨X15,l11,F31⟩:=bS F30
  refine eR (v:=S X15) f kr kr rfl rfl (λ_=>by kernel_rfl) (aR n _ hG.mo d1 X5 X15 l11) λ_ f=>bI λW30 N31=>?_
  obtain⟨X16,l12,F32⟩:=bS F31
  rcases X16 with X17|X18
  ·refine aN f N31 (lW n _ hG.mo _ X14 D5.mo X15 (.inl X17) l12) kr (λ_=>by kernel_rfl) λV13 W31 J13 N32=>pm f λ_ f=>cj (aV f ?_)
   cases sI F32
   exact⟨V13,mL,(N32.dropN 1),rfl⟩
  refine Y8 f N31 (OkX.ok (lW n _ hG.mo _ X14 D5.mo X15 (.inr X18) l12)) λ_ V14 W32 J14 N33 nt _ f=>?_
  obtain⟨c_5,rfl,D6⟩:=nt
  obtain⟨Z10,P10,rfl,B18⟩:=TG0.opn D6
  refine ag rfl (bL 1 J14 N33 (bI λW33 N34=>Wu f N34 0 0 (lTG0 X18 Z10 P10) λW34 N35 _ f=>ag rfl (bL 1 J14 N35 (dx rfl λW35 N36=>az (wp_ret (bM f rfl (Rv.oN (lTG0 X18 Z10 P10) f N36 0 0) ?_))))))
  cases sI F32
  exact⟨_,rfl,_,mL,(N36.dropN 1).kr,⟨_,rfl,D6.mo⟩⟩
 have e_7:=of_decide_eq_false B15
 rcases cE F33 with⟨B19,F34⟩|⟨B19,F39⟩
 ·have e_8:=of_decide_eq_true B19
  have f:=Frm.set f 55 (v:=.tuple #[fnV ((ew callL X5).getD none),.bool (ew callL X5).isSome]) (v':=.tuple #[.func (.func 80) #[] #[],.bool true]) (by kernel_rfl) (by rw[e_8];rfl)
  refine Ye f 5 λ_ f=>RR (Y f 3 λ_ f=>?_)
  obtain⟨X19,l13,F35⟩:=bS F34
  refine Y9 f N18 (aR n _ hG.mo d1 X5 X19 l13) λW36 N37 _ f=>Y9 f N37 (bA _ (121:Int) X19) λW37 N38 _ f=>eT (ah (cu 1 [(0,true),(1,true),(2,true),(3,true),(4,true),(5,true),(6,true),(7,true),(8,false),(9,false)] N38 (Y0 default f 2 λ_ f=>bG f kr kr rfl rfl (λ_ pq=>XK pq (fu R2) 4) λ_ f=>?_)))
  obtain⟨X20,l14,F36⟩:=bS F35
  obtain⟨C4,c_6,e_9,D7,R6⟩:=Sli.aM V10 B1 l14
  obtain⟨Z11,P11,Z12,P12,rfl,B20,B21⟩:=TE0.opn D7
  refine bG f kr kr rfl rfl (λ_ pq=>XI e_9 l14) λ_ f=>bG f kr kr rfl rfl (λ_ pq=>XK pq R6 0) λ_ f=>Y0 default f 2 λ_ f=>?_
  obtain⟨X21,l15,F37⟩:=bS F36
  refine eR (v:=S X21) f kr kr rfl rfl (λ_=>by kernel_rfl) (aR n _ hG.mo d1 X5 X21 l15) λ_ f=>bI λW39 N40=>?_
  obtain⟨X22,l16,F38⟩:=bS F37
  rcases X22 with X23|X24
  ·refine aN f N40 (lX n _ hG.mo _ X20 D7.mo X21 (.inl X23) l16) kr (λ_=>by kernel_rfl) λV15 W40 J15 N41=>pm f λ_ f=>cj (aV f ?_)
   cases sI F38
   exact⟨V15,mL,(N41.dropN 1),rfl⟩
  refine Y8 f N40 (OkX.ok (lX n _ hG.mo _ X20 D7.mo X21 (.inr X24) l16)) λ_ V16 W41 J16 N42 pg _ f=>?_
  obtain⟨c_7,rfl,D8⟩:=pg
  obtain⟨Z13,P13,rfl,B22⟩:=TG0.opn D8
  refine ag rfl (bL 1 J16 N42 (bI λW42 N43=>Wu f N43 0 0 (lTG0 X24 Z13 P13) λW43 N44 _ f=>ag rfl (bL 1 J16 N44 (dx rfl λW44 N45=>az (wp_ret (bM f rfl (Rv.oN (lTG0 X24 Z13 P13) f N45 0 0) ?_))))))
  cases sI F38
  exact⟨_,rfl,_,mL,(N45.dropN 1).kr,⟨_,rfl,D8.mo⟩⟩
 have e_10:=of_decide_eq_false B19
 rcases cE F39 with⟨B23,F40⟩|⟨B23,F45⟩
 ·have e_11:=of_decide_eq_true B23
  have f:=Frm.set f 55 (v:=.tuple #[fnV ((ew callL X5).getD none),.bool (ew callL X5).isSome]) (v':=.tuple #[.func (.func 82) #[] #[],.bool true]) (by kernel_rfl) (by rw[e_11];rfl)
  refine Ye f 5 λ_ f=>RR (Y f 3 λ_ f=>?_)
  obtain⟨X25,l17,F41⟩:=bS F40
  refine Y9 f N18 (aR n _ hG.mo d1 X5 X25 l17) λW45 N46 _ f=>Y9 f N46 (bA _ (121:Int) X25) λW46 N47 _ f=>eT (ah (cu 1 [(0,true),(1,true),(2,true),(3,true),(4,true),(5,true),(6,true),(7,true),(8,false),(9,false)] N47 (Y0 default f 2 λ_ f=>bG f kr kr rfl rfl (λ_ pq=>XK pq (fu R2) 4) λ_ f=>?_)))
  obtain⟨X26,l18,F42⟩:=bS F41
  obtain⟨C5,c_8,e_12,D9,R7⟩:=Sli.aM V10 B1 l18
  obtain⟨Z14,P14,Z15,P15,rfl,B24,B25⟩:=TE0.opn D9
  refine bG f kr kr rfl rfl (λ_ pq=>XI e_12 l18) λ_ f=>bG f kr kr rfl rfl (λ_ pq=>XK pq R7 0) λ_ f=>Y0 default f 2 λ_ f=>?_
  obtain⟨X27,l19,F43⟩:=bS F42
  refine eR (v:=S X27) f kr kr rfl rfl (λ_=>by kernel_rfl) (aR n _ hG.mo d1 X5 X27 l19) λ_ f=>bI λW48 N49=>?_
  obtain⟨X28,l20,F44⟩:=bS F43
  rcases X28 with X29|X30
  ·refine aN f N49 (lY n rec_syntax_expr hrec_syntax_expr _ hG.mo _ X26 D9.mo X27 (.inl X29) l20) kr (λ_=>by kernel_rfl) λV17 W49 J17 N50=>pm f λ_ f=>cj (aV f ?_)
   cases sI F44
   exact⟨V17,mL,(N50.dropN 1),rfl⟩
  refine Y8 f N49 (OkX.ok (lY n rec_syntax_expr hrec_syntax_expr _ hG.mo _ X26 D9.mo X27 (.inr X30) l20)) λ_ V18 W50 J18 N51 so _ f=>?_
  obtain⟨c_9,rfl,D10⟩:=so
  obtain⟨Z16,P16,rfl,B26⟩:=TG0.opn D10
  refine ag rfl (bL 1 J18 N51 (bI λW51 N52=>Wu f N52 0 0 (lTG0 X30 Z16 P16) λW52 N53 _ f=>ag rfl (bL 1 J18 N53 (dx rfl λW53 N54=>az (wp_ret (bM f rfl (Rv.oN (lTG0 X30 Z16 P16) f N54 0 0) ?_))))))
  cases sI F44
  exact⟨_,rfl,_,mL,(N54.dropN 1).kr,⟨_,rfl,D10.mo⟩⟩
 have e_13:=of_decide_eq_false B23
 rcases cE F45 with⟨B27,F46⟩|⟨B27,F51⟩
 ·have e_14:=of_decide_eq_true B27
  have f:=Frm.set f 55 (v:=.tuple #[fnV ((ew callL X5).getD none),.bool (ew callL X5).isSome]) (v':=.tuple #[.func (.func 83) #[] #[],.bool true]) (by kernel_rfl) (by rw[e_14];rfl)
  refine Ye f 5 λ_ f=>RR (Y f 3 λ_ f=>?_)
  obtain⟨X31,l21,F47⟩:=bS F46
  refine Y9 f N18 (aR n _ hG.mo d1 X5 X31 l21) λW54 N55 _ f=>Y9 f N55 (bA _ (121:Int) X31) λW55 N56 _ f=>eT (ah (cu 1 [(0,true),(1,true),(2,true),(3,true),(4,true),(5,true),(6,true),(7,true),(8,false),(9,false)] N56 (Y0 default f 2 λ_ f=>bG f kr kr rfl rfl (λ_ pq=>XK pq (fu R2) 4) λ_ f=>?_)))
  obtain⟨X32,l22,F48⟩:=bS F47
  obtain⟨C6,c_10,e_15,D11,R8⟩:=Sli.aM V10 B1 l22
  obtain⟨Z17,P17,Z18,P18,rfl,B28,B29⟩:=TE0.opn D11
  refine bG f kr kr rfl rfl (λ_ pq=>XI e_15 l22) λ_ f=>bG f kr kr rfl rfl (λ_ pq=>XK pq R8 0) λ_ f=>Y0 default f 2 λ_ f=>?_
  obtain⟨X33,l23,F49⟩:=bS F48
  refine eR (v:=S X33) f kr kr rfl rfl (λ_=>by kernel_rfl) (aR n _ hG.mo d1 X5 X33 l23) λ_ f=>bI λW57 N58=>?_
  obtain⟨X34,l24,F50⟩:=bS F49
  rcases X34 with X35|X36
  ·refine aN f N58 (lZ n rec_syntax_expr hrec_syntax_expr _ hG.mo _ X32 D11.mo X33 (.inl X35) l24) kr (λ_=>by kernel_rfl) λV19 W58 J19 N59=>pm f λ_ f=>cj (aV f ?_)
   cases sI F50
   exact⟨V19,mL,(N59.dropN 1),rfl⟩
  refine Y8 f N58 (OkX.ok (lZ n rec_syntax_expr hrec_syntax_expr _ hG.mo _ X32 D11.mo X33 (.inr X36) l24)) λ_ V20 W59 J20 N60 q_7 _ f=>?_
  obtain⟨c_11,rfl,D12⟩:=q_7
  obtain⟨Z19,P19,rfl,B30⟩:=TG0.opn D12
  refine ag rfl (bL 1 J20 N60 (bI λW60 N61=>Wu f N61 0 0 (lTG0 X36 Z19 P19) λW61 N62 _ f=>ag rfl (bL 1 J20 N62 (dx rfl λW62 N63=>az (wp_ret (bM f rfl (Rv.oN (lTG0 X36 Z19 P19) f N63 0 0) ?_))))))
  cases sI F50
  exact⟨_,rfl,_,mL,(N63.dropN 1).kr,⟨_,rfl,D12.mo⟩⟩
 have e_16:=of_decide_eq_false B27
 rcases cE F51 with⟨B31,F52⟩|⟨B31,F57⟩
 ·have e_17:=of_decide_eq_true B31
  have f:=Frm.set f 55 (v:=.tuple #[fnV ((ew callL X5).getD none),.bool (ew callL X5).isSome]) (v':=.tuple #[.func (.func 84) #[] #[],.bool true]) (by kernel_rfl) (by rw[e_17];rfl)
  refine Ye f 5 λ_ f=>RR (Y f 3 λ_ f=>?_)
  obtain⟨X37,l25,F53⟩:=bS F52
  refine Y9 f N18 (aR n _ hG.mo d1 X5 X37 l25) λW63 N64 _ f=>Y9 f N64 (bA _ (121:Int) X37) λW64 N65 _ f=>eT (ah (cu 1 [(0,true),(1,true),(2,true),(3,true),(4,true),(5,true),(6,true),(7,true),(8,false),(9,false)] N65 (Y0 default f 2 λ_ f=>bG f kr kr rfl rfl (λ_ pq=>XK pq (fu R2) 4) λ_ f=>?_)))
  obtain⟨X38,l26,F54⟩:=bS F53
  obtain⟨C7,c_12,e_18,D13,R9⟩:=Sli.aM V10 B1 l26
  obtain⟨Z20,P20,Z21,P21,rfl,B32,B33⟩:=TE0.opn D13
  refine bG f kr kr rfl rfl (λ_ pq=>XI e_18 l26) λ_ f=>bG f kr kr rfl rfl (λ_ pq=>XK pq R9 0) λ_ f=>Y0 default f 2 λ_ f=>?_
  obtain⟨X39,l27,F55⟩:=bS F54
  refine eR (v:=S X39) f kr kr rfl rfl (λ_=>by kernel_rfl) (aR n _ hG.mo d1 X5 X39 l27) λ_ f=>bI λW66 N67=>?_
  obtain⟨X40,l28,F56⟩:=bS F55
  rcases X40 with X41|X42
  ·refine aN f N67 (ma n rec_syntax_expr hrec_syntax_expr _ hG.mo _ X38 D13.mo X39 (.inl X41) l28) kr (λ_=>by kernel_rfl) λV21 W67 J21 N68=>pm f λ_ f=>cj (aV f ?_)
   cases sI F56
   exact⟨V21,mL,(N68.dropN 1),rfl⟩
  refine Y8 f N67 (OkX.ok (ma n rec_syntax_expr hrec_syntax_expr _ hG.mo _ X38 D13.mo X39 (.inr X42) l28)) λ_ V22 W68 J22 N69 q_8 _ f=>?_
  obtain⟨c_13,rfl,D14⟩:=q_8
  obtain⟨Z22,P22,rfl,B34⟩:=TG0.opn D14
  refine ag rfl (bL 1 J22 N69 (bI λW69 N70=>Wu f N70 0 0 (lTG0 X42 Z22 P22) λW70 N71 _ f=>ag rfl (bL 1 J22 N71 (dx rfl λW71 N72=>az (wp_ret (bM f rfl (Rv.oN (lTG0 X42 Z22 P22) f N72 0 0) ?_))))))
  cases sI F56
  exact⟨_,rfl,_,mL,(N72.dropN 1).kr,⟨_,rfl,D14.mo⟩⟩
 have e_19:=of_decide_eq_false B31
 have e_20:=callL_none qn e_7 e_10 e_13 e_16 e_19
 have f:=Frm.set f 55 (v:=.tuple #[fnV ((ew callL X5).getD none),.bool (ew callL X5).isSome]) (v':=.tuple #[.nilFunc,.bool false]) (by kernel_rfl) (by rw[e_20];rfl)
 refine Ye f 5 λ_ f=>RR (Y f 3 λ_ f=>?_)
 obtain⟨X43,l29,F58⟩:=bS F57
 refine Y9 f N18 (aR n _ hG.mo d1 X5 X43 l29) λW72 N73 _ f=>aN f N73 (bz _ (121:Int) X43) kr (λ_=>by kernel_rfl) λV23 W73 J23 N74=>cj (aV f ?_)
 cases sI F58
 exact⟨V23,mL,(N74.dropN 1),rfl⟩
def dL (n:Nat):Nat→TE0→Bs→Option (Sum (Int×Bs) TG0)
 |0=>λ_ _=>none
 |k+1=>jM n (dL n k)
def jj (n:Nat) (d0:TE0) (d1:Bs):Option (Sum (Int×Bs) TG0):=dL n n d0 d1
theorem eB (n:Nat) (M:Mem) (hG:GL M) (c0:Lv) (d0:TE0) (h0:Rep M (ai d0) c0) (d1:Bs) (r:Sum (Int×Bs) TG0) (hF:jj n d0 d1=some r):OkX Tryz.prog M 18 [.agg c0.toArray,S d1] 78 r (λr=>λM' v=>∃ (c0:Lv),v=.agg c0.toArray∧Rep M' (aA r) c0):=by
 have key: ∀ (k:Nat) (M:Mem) (hG:GL M) (c0:Lv) (d0:TE0) (h0:Rep M (ai d0) c0) (d1:Bs) (r:Sum (Int×Bs) TG0) (hF:dL n k d0 d1=some r),OkX Tryz.prog M 18 [.agg c0.toArray,S d1] 78 r (λr=>λM' v=>∃ (c0:Lv),v=.agg c0.toArray∧Rep M' (aA r) c0):=by
  intro k
  induction k with
  |zero=>intro M hG c0 d0 h0 d1 r hF;simp[dL] at hF
  |succ k ih=>intro M hG c0 d0 h0 d1 r hF;exact qH n (dL n k) ih M hG c0 d0 h0 d1 r hF
 exact key n M hG c0 d0 h0 d1 r hF
end Go.Proofs.YtkopljikappieaaGreatDoor
end
section
namespace Go.Vc
open Go Go.RowKit
variable {dd:List Deferred}
section
variable {P:Program} {fn:Func} {R:Ending→World→Prop} {n:Nat} {L:Fr} {a:Act} {w:World}
theorem CallsD.mono' {f:FuncId} {args:Array Value} {u:FrameMode} {R R':Ending→FrameMode→World→Prop} (h:CallsD P f args u w R) (hq: ∀e u w,R e u w→R' e u w):CallsD P f args u w R':=
 λc cs hu=>let ⟨e,u',w',fr,h1,h2⟩:=h c cs hu; ⟨e,u',w',fr,hq _ _ _ h1,h2⟩
theorem R_enterD {f:FuncId} {c:Code} {args:Lv} (n:Nat) (hf:P.funcs[f]? =some fn) (hb:fn.body=some c) (hn:fn.ntmps=n) (hle:args.length≤n)
 (h: ∀a,Frm n (frame0 args 0) a→c.wp P (bodyPostD P fn R) a w):Calls P f args.toArray w R:=by
 refine calls_of_wp_defers hf hb (h _ ⟨by simp[hn];omega,rfl,λt v hv=>?_⟩)
 obtain⟨_,h2⟩:=kO args 0 t v hv
 simp only[Nat.sub_zero] at h2
 have hlt:t<args.length:=(List.getElem?_eq_some_iff.1 h2).1
 rw[List.getElem?_eq_getElem hlt] at h2
 simp only[Option.some.injEq] at h2
 simp[Array.getElem?_append,hlt,h2]
theorem E_D0 (hf:Frm n L a) (h:Res P fn a R w):bodyPostD P fn R .ret a w:=by
 show Leaves P fn a.tmps R a.defers .returning w
 rw[hf.defers]
 exact h
theorem E_D1 {d:Deferred} {fv:Fn} {cap:Array Value} {f:FuncId} {args:Array Value} {S:World→Prop} (hf:Frm n L a [d]) (ht:d.target=.fn fv cap) (hi: ∀w,(invoke d.target d.args).run P w=.ok (.enter f args) w)
 (hc:CallsD P f args .returning w λe u' w'=>∃v,e=.returned v∧settle u'=.returning∧S w') (h: ∀w',S w'→Res P fn a R w'):bodyPostD P fn R .ret a w:=by
 show Leaves P fn a.tmps R a.defers .returning w
 rw[hf.defers]
 refine⟨by simp,fv,cap,f,args,ht,hi w,CallsD.mono' hc λe u' w' ⟨v,he,hu,hs⟩=>?_⟩
 subst he
 show Leaves P fn a.tmps R [] (settle u') w'
 rw[hu]
 exact h w' hs
theorem E_D1p {d:Deferred} {fv:Fn} {cap:Array Value} {f:FuncId} {args:Array Value} {S:World→Prop} {ch:List PanicEntry} (hf:Frm n L a [d]) (ht:d.target=.fn fv cap) (hi: ∀w,(invoke d.target d.args).run P w=.ok (.enter f args) w)
 (hc:CallsD P f args (.panicking ch) w λe u' w'=>∃v,e=.returned v∧settle u'=.returning∧S w') (h: ∀w',S w'→Res P fn a R w'):bodyPostD P fn R (.panic ch) a w:=by
 show Leaves P fn a.tmps R a.defers (.panicking ch) w
 rw[hf.defers]
 refine⟨by simp,fv,cap,f,args,ht,hi w,CallsD.mono' hc λe u' w' ⟨v,he,hu,hs⟩=>?_⟩
 subst he
 show Leaves P fn a.tmps R [] (settle u') w'
 rw[hu]
 exact h w' hs
end
section
variable {P:Program} {ops:Array Oper} {n:Nat} {Q:Exit→Act→World→Prop} {L:Fr} {a:Act} {w:World}
theorem W_defer {o:Oper} {rest:List Oper} (d:Deferred) (hf:Frm n L a dd) (hw:bi ops L o=some true) (hr:bW L o=true) (hd:o.dst=none) (hx: (execOp (ev L) o).run P w=.ok (.defer d) w)
 (hk: ∀a',Frm n L a' (d::dd)→wpList P ops Q rest a' w):wpList P ops Q (o::rest) a w:=by
 simp only[wpList]
 rw[hf.wanted hw]
 refine .inl ?_
 unfold Oper.wp
 rw[hf.exec hr,hx]
 refine hk _ ?_
 rw[hd]
 exact⟨hf.size,by show d::a.defers=_;rw[hf.defers],hf.at_⟩
end
section
variable {P:Program} {ops:Array Oper} {Q:Exit→Act→List Frame→World→Prop} {a:Act} {cs cs':List Frame} {w:World}
theorem recS_some {o:Oper} {i:Nat} {rest:List Nat} {v:Value} (ho:ops[i]? =some o) (hw:Region.wanted o (yielded ops a.tmps)=true) (hx: (execOp a.eval o).run P w=.ok .recover w) (hr:recoverD cs=some (v,cs')) (h:wpOpsS P ops Q rest (a.put o.dst v) cs' w):wpOpsS P ops Q (i::rest) a cs w:=by
 simp only[wpOpsS,ho,hw,if_true,hx,hr]
 exact h
theorem recS_none {o:Oper} {i:Nat} {rest:List Nat} (ho:ops[i]? =some o) (hw:Region.wanted o (yielded ops a.tmps)=true) (hx: (execOp a.eval o).run P w=.ok .recover w) (hr:recoverD cs=none) (h:wpOpsS P ops Q rest (a.put o.dst .nilIface) cs w):wpOpsS P ops Q (i::rest) a cs w:=by
 simp only[wpOpsS,ho,hw,if_true,hx,hr]
 exact h
theorem pO (hQ: ¬LetsOut λe a w=>Q e a cs w): ∀ (l:List Oper) (k:Nat),(∀j,j<l.length→l[j]? =ops[k+j]?)→∀a w,wpList P ops (λe a' w'=>Q e a' cs w') l a w→wpOpsS P ops Q (List.range' k l.length) a cs w
 |[],k,_,a,w,h=>h
 |o::l,k,hl,a,w,h=>by
  have h0:ops[k]? =some o:=by simpa using (hl 0 (by simp)).symm
  have ih:=pO hQ l (k+1) (λj hj=>by have:=hl (j+1) (by simp;omega);simpa [Nat.add_assoc,Nat.add_comm 1 j] using this)
  simp only[List.length_cons,List.range'_succ,wpOpsS,h0]
  simp only[wpList] at h
  split
  ·rename_i hw
   rw[if_pos hw] at h
   rcases h with h|⟨-,h⟩
   ·unfold Oper.wp at h
    generalize (execOp a.eval o).run P w=r at h ⊢
    cases r with
    |ok x w'=>
     cases x<;>simp only[Oper.upon] at h ⊢
     case value v=>exact ih _ _ h
     case skip=>exact ih _ _ h
     case defer d=>exact ih _ _ h
     case enter f args=>
      refine Calls.mono h λe w'' he=>?_
      cases e with
      |returned v=>exact ih _ _ he
      |panicked c=>exact he
      |outgrown=>exact he
     case row row args=>exact Go.Rows.mono h λv w'' he=>ih _ _ he
    |halt x w'=>
     cases x<;>simp only[Oper.upon] at h ⊢
     case panic v=>exact h
   exact absurd h hQ
  rename_i hw
  rw[if_neg hw] at h
  exact ih _ _ h
end
end Go.Vc
namespace Go.Vc
open Go Go.RowKit
theorem regS_rec {P:Program} {ops:Array Oper} {Q:Exit→Act→List Frame→World→Prop} {a:Act} {cs cs':List Frame} {w:World} {id:Nat} {o:Oper} {l:List Oper} {v:Value} (hQ: ¬LetsOut λe a w=>Q e a cs' w) (h0:ops.toList=o::l)
 (hw:Region.wanted o (yielded ops a.tmps)=true) (hx: (execOp a.eval o).run P w=.ok .recover w) (hr: (recoverD cs=some (v,cs'))∨(recoverD cs=none∧v=.nilIface∧cs'=cs)) (h:wpList P ops (λe a' w'=>Q e a' cs' w') l (a.put o.dst v) w):
 (Code.region id ops false).wpS P Q a cs w:=by
 refine wpS_region ?_
 have hlen:ops.size=l.length+1:=by rw[←Array.length_toList,h0];rfl
 have ho:ops[0]? =some o:=by rw[←Array.getElem?_toList,h0];rfl
 rw[hlen,List.range_eq_range',List.range'_succ]
 have ht:=pO hQ l (0+1) (λj hj=>by rw[←Array.getElem?_toList,h0,Nat.add_comm (0+1) j];rfl) (a.put o.dst v) w h
 rcases hr with hr|⟨hr,rfl,rfl⟩
 ·exact recS_some ho hw hx hr ht
 exact recS_none ho hw hx hr ht
theorem thenS_n {next:Act→List Frame→World→Prop} {Q:Exit→Act→List Frame→World→Prop} {a:Act} {cs:List Frame} {w:World} (h:next a cs w):Exit.thenS next Q .normal a cs w:=h
theorem ou {n:Nat} {args:Lv} (hle:args.length≤n):Frm n (frame0 args 0) {tmps:=args.toArray++Array.replicate (n-args.toArray.size) undef,defers:=[]}:=by
 refine⟨by simp;omega,rfl,λt v hv=>?_⟩
 obtain⟨_,h2⟩:=kO args 0 t v hv
 simp only[Nat.sub_zero] at h2
 have hlt:t<args.length:=(List.getElem?_eq_some_iff.1 h2).1
 rw[List.getElem?_eq_getElem hlt] at h2
 simp only[Option.some.injEq] at h2
 simp[Array.getElem?_append,hlt,h2]
end Go.Vc
namespace Go.Vc
open Go Go.RowKit
section
variable {P:Program} {fn:Func} {R:Ending→World→Prop} {n:Nat} {L:Fr} {a:Act} {w:World}
theorem leaves2 {tmps:Array Value} {d1 d2:Deferred} {fv1 fv2:Fn} {cap1 cap2:Array Value} {f1 f2:FuncId} {args1 args2:Array Value} {S1 S2:World→Prop} {u:FrameMode} (hu:u≠ .run) (ht1:d1.target=.fn fv1 cap1) (hi1: ∀w,(invoke d1.target d1.args).run P w=.ok (.enter f1 args1) w) (ht2:d2.target=.fn fv2 cap2) (hi2: ∀w,(invoke d2.target d2.args).run P w=.ok (.enter f2 args2) w)
 (hc1:CallsD P f1 args1 u w λe u' w'=>∃v,e=.returned v∧settle u'=.returning∧S1 w') (hc2: ∀w,S1 w→CallsD P f2 args2 .returning w λe u' w'=>∃v,e=.returned v∧settle u'=.returning∧S2 w')
 (h: ∀w',S2 w'→Leaves P fn tmps R [] .returning w'):Leaves P fn tmps R [d1,d2] u w:=by
 refine⟨hu,fv1,cap1,f1,args1,ht1,hi1 w,CallsD.mono' hc1 λe u' w' ⟨v,he,hu,hs⟩=>?_⟩
 subst he
 show Leaves P fn tmps R [d2] (settle u') w'
 rw[hu]
 refine⟨by simp,fv2,cap2,f2,args2,ht2,hi2 w',CallsD.mono' (hc2 w' hs) λe u' w' ⟨v,he,hu,hs⟩=>?_⟩
 subst he
 show Leaves P fn tmps R [] (settle u') w'
 rw[hu]
 exact h w' hs
theorem E_D2 {d1 d2:Deferred} {fv1 fv2:Fn} {cap1 cap2:Array Value} {f1 f2:FuncId} {args1 args2:Array Value} {S1 S2:World→Prop} (hf:Frm n L a [d1,d2]) (ht1:d1.target=.fn fv1 cap1) (hi1: ∀w,(invoke d1.target d1.args).run P w=.ok (.enter f1 args1) w) (ht2:d2.target=.fn fv2 cap2) (hi2: ∀w,(invoke d2.target d2.args).run P w=.ok (.enter f2 args2) w)
 (hc1:CallsD P f1 args1 .returning w λe u' w'=>∃v,e=.returned v∧settle u'=.returning∧S1 w') (hc2: ∀w,S1 w→CallsD P f2 args2 .returning w λe u' w'=>∃v,e=.returned v∧settle u'=.returning∧S2 w')
 (h: ∀w',S2 w'→Res P fn a R w'):bodyPostD P fn R .ret a w:=by
 show Leaves P fn a.tmps R a.defers .returning w
 rw[hf.defers]
 exact leaves2 (by simp) ht1 hi1 ht2 hi2 hc1 hc2 h
theorem E_D2p {d1 d2:Deferred} {fv1 fv2:Fn} {cap1 cap2:Array Value} {f1 f2:FuncId} {args1 args2:Array Value} {S1 S2:World→Prop} {ch:List PanicEntry} (hf:Frm n L a [d1,d2]) (ht1:d1.target=.fn fv1 cap1) (hi1: ∀w,(invoke d1.target d1.args).run P w=.ok (.enter f1 args1) w) (ht2:d2.target=.fn fv2 cap2) (hi2: ∀w,(invoke d2.target d2.args).run P w=.ok (.enter f2 args2) w)
 (hc1:CallsD P f1 args1 (.panicking ch) w λe u' w'=>∃v,e=.returned v∧settle u'=.returning∧S1 w') (hc2: ∀w,S1 w→CallsD P f2 args2 .returning w λe u' w'=>∃v,e=.returned v∧settle u'=.returning∧S2 w')
 (h: ∀w',S2 w'→Res P fn a R w'):bodyPostD P fn R (.panic ch) a w:=by
 show Leaves P fn a.tmps R a.defers (.panicking ch) w
 rw[hf.defers]
 exact leaves2 (by simp) ht1 hi1 ht2 hi2 hc1 hc2 h
end
end Go.Vc
end
section
namespace Go.Proofs.YtkopljikappieaaGreatDoor
open Go Go.Vc Go.RowKit
theorem Hp.dropAt2 {w0:World} {M:Mem} {x y z:Ent} {H:List Ent} {w:World} (h:Hp w0 M (x::y::z::H) w):Hp w0 M (x::y::H) w:=
 (h.perm (List.Perm.trans (List.Perm.cons x (List.Perm.swap z y H)) (List.Perm.swap z x (y::H)))).dropN 1
set_option maxRecDepth 20000 in
theorem taken_q {M:Mem} {w0:World} {H:List Ent} {w:World} (b3 b4:Nat) (hp:Hp w0 M H w):CallsD Tryz.prog 17 [pP b3,pP b4].toArray .returning w (λe u' w'=>∃v,e=.returned v∧settle u'=.returning∧Hp w0 M H w'):=by
 refine callsD_of_wpS Tryz.func17 rfl λc₀ cs hu=>?_
 have hf0:Frm 20 (frame0 [pP b3,pP b4] 0) _:=ou (by simp)
 have hrec:recoverD (c₀::cs)=none:=by unfold recoverD;simp only[hu]
 have hcs: ({c₀ with mode:=.returning}:Frame)=c₀:=by rw[←hu]
 refine wpS_seq (regS_rec (v:=.nilIface) (cs':=c₀::cs) ?_ rfl (hf0.wanted kr) rfl (.inr ⟨hrec,rfl,rfl⟩) ?_)
 ·rintro⟨a,w,u,v,he,_⟩;cases he
 have hf1:Frm 20 ((7,.nilIface)::frame0 [pP b3,pP b4] 0) _:=hf0.put (by decide) _
 refine iU (L':=[(0,pP b3),(1,pP b4),(9,.agg #[iL 0,S []]),(10,bO false)]) (w':=w) hf1 4 [0,1,9,10] kr λ_ f=>Y4 f hp (.cells #[iL 0,S []] 78 (0,0)) λb5 W3 N3 _ f=>pt (vs:=[iL 0,S []]) (j:=0) f N3 kr kr rfl rfl kr kr (by simp[Value.oneCell',S]) kr (by simp) (by decide) (cs':=#[iL 0,S []]) kr λW4 N4 _ f=>Y f 1 λ_ f=>ag rfl (thenS_n (wpS_of_wp (RR (iU (L':=[(0,pP b3),(1,pP b4),(4,pP b5),(11,bO false)]) (w':=W4) f 1 [0,1,4,11] kr λ_ f=>eT (jE f kr kr (wp_skip (⟨f.defers,.returning,by rw[hcs],.tuple #[],results_none rfl _ _ _,⟨_,rfl,rfl,N4.dropN 1⟩⟩)))))))
set_option maxRecDepth 20000 in
theorem taken_p {M:Mem} {w0:World} {H:List Ent} {w:World} (b3 b4:Nat) (x:Int×Bs) (s:Bs) (e0:Int) (hp:Hp w0 M (oC b3 #[S s] 9::oC b4 #[iL e0] 32::H) w):CallsD Tryz.prog 17 [pP b3,pP b4].toArray (.panicking (flawE 78 x)) w (λe u' w'=>∃v,e=.returned v∧settle u'=.returning∧Hp w0 M (oC b3 #[S x.2] 9::oC b4 #[iL x.1] 32::H) w'):=by
 refine callsD_of_wpS Tryz.func17 rfl λc₀ cs hu=>?_
 have hf0:Frm 20 (frame0 [pP b3,pP b4] 0) _:=ou (by simp)
 have hrec:recoverD (c₀::cs)=some (.iface 78 (.agg #[iL x.1,S x.2]),{c₀ with mode:=.panicking [{v:=.iface 78 (.agg #[iL x.1,S x.2]),recovered:=true}]}::cs):=by unfold recoverD flawE at*;simp only[hu]
 refine wpS_seq (regS_rec (v:=.iface 78 (.agg #[iL x.1,S x.2])) (cs':={c₀ with mode:=.panicking [{v:=.iface 78 (.agg #[iL x.1,S x.2]),recovered:=true}]}::cs) ?_ rfl (hf0.wanted kr) rfl (.inl hrec) ?_)
 ·rintro⟨a,w,u,v,he,_⟩;cases he
 have hf1:Frm 20 ((7,.iface 78 (.agg #[iL x.1,S x.2]))::frame0 [pP b3,pP b4] 0) _:=hf0.put (by decide) _
 refine iU (L':=[(0,pP b3),(1,pP b4),(9,.agg #[iL x.1,S x.2]),(10,bO true)]) (w':=w) hf1 4 [0,1,9,10] kr λa_2 f=>Y4 f hp (.cells #[iL 0,S []] 78 (0,0)) λb5 W3 N3 a_3 f=>pt (vs:=[iL x.1,S x.2]) (j:=0) f N3 kr kr rfl rfl kr kr (by simp[Value.oneCell',S]) kr (by simp) (by decide) (cs':=#[iL x.1,S x.2]) kr λW4 N4 a_4 f=>Y f 1 λa_5 f=>ag rfl (thenS_n (wpS_of_wp (RR (iU (L':=[(0,pP b3),(1,pP b4),(4,pP b5),(11,bO true)]) (w':=W4) f 1 [0,1,4,11] kr λ_ f=>eT (iT f kr kr ?_)))))
 have N8:Hp w0 M (oC b3 #[S s] 9::oC b4 #[iL e0] 32::oC b5 #[iL x.1,S x.2] 78::H) W4:=N4.perm (List.Perm.trans (List.Perm.swap _ _ _) (List.Perm.cons _ (List.Perm.swap _ _ _)))
 refine R_mix (E:=[oC b3 #[S s] 9,oC b4 #[iL e0] 32]) (Hr:=((oC b5 #[iL x.1,S x.2] 78)::H)) [(0,true),(1,true),(2,true),(3,true),(4,true),(5,true),(6,true),(7,false),(8,true),(9,false)] N8 kr kr rfl kr (Y0 default f 3 λ_ f=>bG (v:=S x.2) f kr kr rfl rfl (λ_ pq=>eo (v:=S x.2) rfl (ad:=⟨b5,1,none⟩) kr kr (pq.ownCell 0 rfl 1)) λa_2 f=>Y0 default f 1 λa_3 f=>bG (v:=iL x.1) f kr kr rfl rfl (λ_ pq=>eo (v:=iL x.1) rfl (ad:=⟨b5,0,none⟩) kr kr (pq.ownCell 0 rfl 0)) λa_4 f=>Y0 default f 1 λa_5 f=>bI (E:=[oC b3 #[S s] 9,oC b4 #[iL e0] 32]) λW1 N1=>jF f N1 0 kr kr rfl rfl (b:=b3) (j:=0) (v:=S x.2) kr kr rfl kr (by exact rfl) (by simp) (by simp) ((oC b3 #[S x.2] 9)::(oC b4 #[iL e0] 32)::(oC b5 #[iL x.1,S x.2] 78)::H) rfl λW2 N2 _ f=>ag rfl (M_go (M1:=M) (E:=[oC b3 #[S x.2] 9,oC b4 #[iL e0] 32]) (mR _) N2 (Y0 default f 1 λ_ f=>bI (E:=[oC b3 #[S x.2] 9,oC b4 #[iL e0] 32]) λW3 N3=>jF f N3 1 kr kr rfl rfl (b:=b4) (j:=0) (v:=iL x.1) kr kr rfl kr (by exact rfl) (by simp) (by simp) ((oC b3 #[S x.2] 9)::(oC b4 #[iL x.1] 32)::(oC b5 #[iL x.1,S x.2] 78)::H) rfl λW4 N4 _ f=>ag rfl (M_go (M1:=M) (E:=[oC b3 #[S x.2] 9,oC b4 #[iL x.1] 32]) (mR _) N4 (dx rfl λW5 N5=>⟨f.defers,_,rfl,.tuple #[],results_none rfl _ _ _,⟨_,rfl,rfl,?_⟩⟩)))))
 obtain⟨q_M,q_h⟩: ∃q:Hp w0 M (oC b3 #[S x.2] 9::oC b4 #[iL x.1] 32::oC b5 #[iL x.1,S x.2] 78::H) W5,True:=⟨N5,trivial⟩
 have q2:=Hp.dropAt2 q_M
 exact q2
def lU (n:Nat) (d0:TE0):Option (TG0×Bs×Int):=
 (kI n d0).bind λX1=>
 bif(!(decide (X1=0))) then
  (some ((aQ,([]:Bs),X1)))
 else
  (jj n d0 ([]:Bs)).bind λX2=>
  (match X2 with
  |.inl X3=>some ((aQ,X3.2,X3.1))
  |.inr X4=>some ((X4,([]:Bs),(0:Int))))
theorem nW (n:Nat) (M:Mem) (hG:GL M) (c0:Lv) (d0:TE0) (h0:Rep M (ai d0) c0) (r:TG0×Bs×Int) (hF:lU n d0=some r):Ok Tryz.prog M 8 [.agg c0.toArray] (λM' v=>∃ (c0:Lv),v=.tuple #[.agg c0.toArray,S r.2.1,iL r.2.2]∧Rep M' (aA r.1) c0):=by
 unfold lU at hF
 intro M1 hM0 w0 H w p0
 replace hG:=GL.mono hM0 hG
 replace h0:=Rep.mono hM0 _ _ h0
 obtain⟨Z1,P1,Z2,P2,rfl,B1,B2⟩:=TE0.opn h0
 refine R_enterD 14 Tryz.func8 rfl rfl (by simp) λa0 f0=>RR (Y5 (cs:=(aTE0 d0 Z1 P1 Z2 P2)) (T:=26) f0 p0 λQ1 V1 W1 J1 R1 N1 _ f=>?_)
 have R2:=aU R1
 refine Y4 f N1 (.cells #[iB 0,S [],iL 0,S [],S [],Sn] 31 (0,0)) λQ2 W2 N2 _ f=>Y4 f N2 (.cells #[S []] 9 (0,0)) λQ3 W3 N3 _ f=>Y4 f N3 (.cells #[iL 0] 32 (0,0)) λQ4 W4 N4 _ f=>eT (ah (RR (Z f (XK N4 R2 0) λ_ f=>?_)))
 obtain⟨X1,l1,F1⟩:=bS hF
 refine Y9 f N4 (oL n _ hG.mo _ d0 h0.mo X1 l1) λW5 N5 _ f=>Ye f 1 λ_ f=>RR (Ye f 2 λ_ f=>RcF f F1 (λB3 F2=>?_) λB3 F3=>?_)
 ·refine RR (Z f (XO N5 2) λ_ f=>Y f 1 λ_ f=>Wu f N5 2 0 [iB 0,S [],iL 0,S [],S [],Sn] λW6 N6 _ f=>Wt f N6 1 0 (S []) λW7 N7 _ f=>Wt f N7 0 0 (iL X1) λW8 N8 _ f=>Er (bl (E_D0 f (tf rfl (Rv.oN [iB 0,S [],iL 0,S [],S [],Sn] f N8 2 0) (Rv.o1 (S []) f N8 1 0) (Rv.o1 (iL X1) f N8 0 0) ?_))))
  cases sI F2
  exact⟨_,rfl,_,J1,(N8.dropN 3).kr,⟨_,rfl,(TG0.shutx Sli.nil)⟩⟩
 refine St (RR (W_defer ({target:=.fn (.func 17) #[],args:=#[pP Q3,pP Q4]}) f kr kr rfl kr λ_ f=>eT (RR (Z f (XK N5 R2 0) λ_ f=>?_))))
 obtain⟨X2,l2,F4⟩:=bS F3
 rcases X2 with X3|X4
 ·refine aN f N5 (eB n _ hG.mo _ d0 h0.mo ([]:Bs) (.inl X3) l2) kr (λ_=>by kernel_rfl) λV2 W9 J2 N9=>cj ?_
  have N13:=N9.pl [2,1,2]
  refine E_D1p f rfl (λ_=>by kernel_rfl) (taken_p Q3 Q4 X3 ([]:Bs) (0:Int) N13) λW10 N10=>tf rfl (Rv.oN [iB 0,S [],iL 0,S [],S [],Sn] f N10 2 0) (Rv.o1 (S X3.2) f N10 0 0) (Rv.o1 (iL X3.1) f N10 1 0) ?_
  cases sI F4
  exact⟨_,rfl,_,mL,(N10.dropN 3).kr,⟨_,rfl,(TG0.shutx Sli.nil)⟩⟩
 refine Y8 f N5 (OkX.ok (eB n _ hG.mo _ d0 h0.mo ([]:Bs) (.inr X4) l2)) λ_ V3 W11 J3 N14 ef _ f=>?_
 obtain⟨dW,rfl,D1⟩:=ef
 obtain⟨Z3,P3,rfl,B4⟩:=TG0.opn D1
 refine Wu f N14 2 0 (lTG0 X4 Z3 P3) λW12 N15 _ f=>Wt f N15 1 0 (S []) λW13 N16 _ f=>Wt f N16 0 0 (iL 0) λW14 N17 _ f=>Er (E_D1 f rfl (λ_=>by kernel_rfl) (taken_q Q3 Q4 N17) λW15 N18=>tf rfl (Rv.oN (lTG0 X4 Z3 P3) f N18 2 0) (Rv.o1 (S []) f N18 1 0) (Rv.o1 (iL 0) f N18 0 0) ?_)
 cases sI F4
 exact⟨_,rfl,_,mL,(N18.dropN 3).kr,⟨_,rfl,D1.mo⟩⟩
abbrev FX (α:Type):=Sum (Int×Bs) α
def wordS (s:Bs):Bool:=decide ((s.length:Int)≤64)&&Lib.validD s
def nameV (v:TE0):Bool:=decide (v.ab=3)&&nameS v.aa
def wordV (v:TE0):Bool:=decide (v.ab=3)&&wordS v.aa
theorem kP {n:Nat} {v:TE0} (hn:100000≤n) (h:v.aa.length≤5000):eE n v=some (nameV v):=by
 unfold eE nameV
 cases hk:decide (v.ab=3) with
 |false=>rw[cF,Bool.false_and]
 |true=>rw[cT,lB (by omega) (by omega),bnd,Bool.true_and]
theorem sJ {n:Nat} {v:TE0} (hn:100000≤n) (h:v.aa.length≤5000):gj n v=some (wordV v):=by
 unfold gj wordV mQ wordS
 cases hk:decide (v.ab=3) with
 |false=>rw[cF,Bool.false_and]
 |true=>
  rw[cT,Bool.true_and]
  cases hl:decide ((v.aa.length:Int)≤64) with
  |false=>rw[cF,bnd,Bool.false_and]
  |true=>rw[cT,qI (by omega),bnd,bnd,Bool.true_and]
def undS (a k:Bs):Bs:=if a=[] then k else a++[47]++k
theorem kZ (a k:Bs): (undS a k).length≤a.length+1+k.length:=by
 unfold undS
 split
 ·omega
 simp;omega
theorem me {n:Nat} {a k:Bs} (ha:a.length≤1000000) (hk:k.length≤1000000):aT n a k=some (undS a k):=by
 unfold aT undS
 by_cases h:a=[]
 ·rw[dT h,cT,if_pos h]
 rw[dF h,cF,if_neg h,aP (by simp;omega),aP (by simp;omega)]
def plcS (a:Bs) (i:Nat):Bs:=undS a (Go.Num.text (i:Int)).1
theorem num_all: ((List.range 9).all λi=>decide ((Go.Num.text (i:Int)).1.length≤20))=true:=by kernel_rfl
theorem num_len {i:Nat} (h:i≤8): (Go.Num.text (i:Int)).1.length≤20:=of_decide_eq_true (List.all_eq_true.1 num_all i (List.mem_range.2 (by omega)))
theorem lC {a:Bs} {i:Nat} (h:i≤8): (plcS a i).length≤a.length+21:=by
 have:=kZ a (Go.Num.text (i:Int)).1
 have:=num_len h
 unfold plcS
 omega
theorem ru {n:Nat} {a:Bs} {i:Nat} (ha:a.length≤1000000) (hi:i≤8):er n a (i:Int)=some (plcS a i):=by
 unfold er qs
 rw[bnd,me ha (by have:=num_len hi;omega),bnd]
 rfl
def exL (E : TE0 → List UInt8 → FX TG0) (at_ : List UInt8) : Nat → List TE0 → FX (List TG0)
  | _, [] => .inr []
  | i, v :: r => match E v (plcS at_ i) with
    | .inl p => .inl p
    | .inr x => match exL E at_ (i + 1) r with
      | .inl p => .inl p
      | .inr xs => .inr (x :: xs)
def twoV (v:TE0):Option (TE0×TE0):=if v.ab=4 then match v.ac with|[a,b]=>some (a,b)|_=>none else none
def threeV (v:TE0):Option (TE0×TE0×TE0):=if v.ab=4 then match v.ac with|[a,b,c]=>some (a,b,c)|_=>none else none
theorem iF (v:TE0): (∃a b,twoV v=some (a,b)∧v.ab=4∧v.ac=[a,b])∨(twoV v=none∧(v.ab≠4∨v.ac.length≠2)):=by
 unfold twoV
 by_cases h:v.ab=4
 ·rw[if_pos h]
  match hl:v.ac with
  |[]=>exact .inr ⟨rfl,.inr (by simp)⟩
  |[a]=>exact .inr ⟨rfl,.inr (by simp)⟩
  |[a,b]=>exact .inl ⟨a,b,rfl,h,rfl⟩
  |a::b::c::r=>exact .inr ⟨rfl,.inr (by simp)⟩
 rw[if_neg h]
 exact .inr ⟨rfl,.inl h⟩
theorem mc (v:TE0): (∃a b c,threeV v=some (a,b,c)∧v.ab=4∧v.ac=[a,b,c])∨(threeV v=none∧(v.ab≠4∨v.ac.length≠3)):=by
 unfold threeV
 by_cases h:v.ab=4
 ·rw[if_pos h]
  match hl:v.ac with
  |[]=>exact .inr ⟨rfl,.inr (by simp)⟩
  |[a]=>exact .inr ⟨rfl,.inr (by simp)⟩
  |[a,b]=>exact .inr ⟨rfl,.inr (by simp)⟩
  |[a,b,c]=>exact .inl ⟨a,b,c,rfl,h,rfl⟩
  |a::b::c::d::r=>exact .inr ⟨rfl,.inr (by simp)⟩
 rw[if_neg h]
 exact .inr ⟨rfl,.inl h⟩
def mapX {α β:Type} (f:α→β):FX α→FX β
 |.inl p=>.inl p
 |.inr x=>.inr (f x)
def shp (at_:Bs):FX TG0:=.inl (121,at_)
def c1V (v:TE0) (at_:Bs):FX TG0:=bif nameV v then .inr ⟨3,[],0,v.aa,[],[]⟩ else shp at_
def c2V (v:TE0) (at_:Bs):FX TG0:=match twoV v with
 |some (a,b)=>bif nameV a&& (decide (b.ab=3)&&attrS b.aa) then .inr ⟨4,[],0,a.aa,b.aa,[]⟩ else shp at_
 |none=>shp at_
def c3V (v:TE0) (at_:Bs):FX TG0:=bif decide (v.ab=3) then(bif decide ((lexS v.aa).2.2=0) then .inr ⟨5,[],0,[],[],(lexS v.aa).1⟩ else .inl ((lexS v.aa).2.2,at_)) else shp at_
def c4V (E:TE0→Bs→FX TG0) (v:TE0) (at_:Bs):FX TG0:=match threeV v with
 |some (a,b,c)=>bif nameV a then mapX (λl=>⟨6,[],0,a.aa,[],l⟩) (exL E at_ 1 [b,c]) else shp at_
 |none=>shp at_
def c5V (E:TE0→Bs→FX TG0) (v:TE0) (at_:Bs):FX TG0:=match twoV v with
 |some (a,b)=>bif wordV a then mapX (λl=>⟨7,a.aa,0,[],[],l⟩) (exL E at_ 1 [b]) else shp at_
 |none=>shp at_
def c6V (E:TE0→Bs→FX TG0) (v:TE0) (at_:Bs):FX TG0:=match twoV v with
 |some (a,b)=>mapX (λl=>⟨8,[],0,[],[],l⟩) (exL E at_ 0 [a,b])
 |none=>shp at_
def callV (E:TE0→Bs→FX TG0) (key:Bs) (v:TE0) (at_:Bs):FX TG0:=
 bif decide (key=[82,101,102]) then c1V v at_
 else bif decide (key=[71,101,116,65,116,116]) then c2V v at_
 else bif decide (key=[83,117,98]) then c3V v at_
 else bif decide (key=[73,102]) then c4V E v at_
 else bif decide (key=[74,111,105,110]) then c5V E v at_
 else bif decide (key=[83,101,108,101,99,116]) then c6V E v at_
 else shp at_
def exprB (E:TE0→Bs→FX TG0) (v:TE0) (at_:Bs):FX TG0:=
 bif decide (v.ab=3) then(bif wordV v then .inr ⟨0,v.aa,0,[],[],[]⟩ else shp at_)
 else bif decide (v.ab=2) then .inr ⟨1,[],v.ak,[],[],[]⟩
 else bif decide (v.ab=4) then(bif decide (((v.ac.length:Nat):Int)≤8) then mapX (λl=>⟨2,[],0,[],[],l⟩) (exL E at_ 0 v.ac) else .inl (3,at_))
 else match v.af,v.ac with
  |[key],[x]=>callV E key x (undS at_ key)
  |_,_=>shp at_
def exprV:Nat→TE0→Bs→FX TG0
 |0,_,at_=>shp at_
 |d+1,v,at_=>exprB (exprV d) v at_
theorem rS {n : Nat} {rc : TE0 → List UInt8 → Option (FX TG0)} {E : TE0 → List UInt8 → FX TG0} {l : List TE0} {at_ : List UInt8} (hat : at_.length ≤ 1000000) (hl : l.length ≤ 8)
  (hr : ∀ x ∈ l, ∀ i, i ≤ 8 → rc x (plcS at_ i) = some (E x (plcS at_ i))) : ∀ (m i : Nat) (acc : List TG0), i + m = l.length → acc.length ≤ i → ∀ q, m < q →
  au (gH n rc l at_) q (acc, (i : Int)) = some (match exL E at_ i (l.drop i) with | .inl p => .inl p | .inr xs => .inr (acc ++ xs))
 | m, i, acc, hm, ha, q, hq => by
  obtain ⟨q, rfl⟩ : ∃ r, q = r + 1 := ⟨q - 1, by omega⟩
  rw [au, gH]
  dsimp only
  by_cases hlt : i < l.length
  ·obtain ⟨m, rfl⟩ : ∃ r, m = r + 1 := ⟨m - 1, by omega⟩
   have hg : aB l (i : Int) = some l[i] := by simp [aB, hlt]
   rw [decide_eq_true (by omega : (i : Int) < (l.length : Int)), cT, hg, bnd, ru hat (by omega), bnd, hr _ (List.getElem_mem hlt) i (by omega), bnd, List.drop_eq_getElem_cons hlt, exL]
   have ih := fun acc h => rS (n := n) hat hl hr m (i + 1) acc (by omega) h q (by omega)
   cases E l[i] (plcS at_ i) with
   | inl p => rfl
   | inr x =>
    dsimp only
    rw [aP (by omega), aI (by omega) (by omega), bnd]
    have e : (i : Int) + 1 = ((i + 1 : Nat) : Int) := by omega
    have ev : (⟨x.ab, x.aa, x.ak, x.av, x.aF, x.fL⟩ : TG0) = x := by cases x; rfl
    dsimp only
    rw [e, ih (acc ++ [x]) (by rw [List.length_append, List.length_singleton]; omega)]
    cases exL E at_ (i + 1) (l.drop (i + 1)) with
    | inl p => rfl
    | inr xs => dsimp only; rw [List.append_assoc]; rfl
  rw [decide_eq_false (by omega), cF, bnd, List.drop_eq_nil_of_le (by omega), exL]
  dsimp only
  rw [List.append_nil]
theorem mt {n:Nat} {rc:TE0→Bs→Option (FX TG0)} {E:TE0→Bs→FX TG0} {l:List TE0} {at_:Bs} (hn:100000≤n) (hat:at_.length≤1000000) (hl:l.length≤8)
 (hr: ∀x∈l,∀i,i≤8→rc x (plcS at_ i)=some (E x (plcS at_ i))) (i:Nat) (hi:i≤l.length):eC n rc l (i:Int) at_=some (exL E at_ i (l.drop i)):=by
 unfold eC
 rw[rS hat hl hr (l.length-i) i [] (by omega) (by simp) n (by omega),bnd]
 cases exL E at_ i (l.drop i) with
 |inl p=>rfl
 |inr xs=>rfl
theorem qw {n:Nat} {v:TE0} {at_:Bs}:gi n v 2 121 at_=some (match twoV v with|some _=>.inr v.ac|none=>.inl (121,at_)):=by
 unfold gi
 rcases iF v with⟨a,b,h,hk,hl⟩|⟨h,hk⟩
 ·rw[h,dT hk,cT,dT (by rw[hl];rfl),cT]
 rw[h]
 by_cases h4:v.ab=4
 ·rw[dT h4,cT,dF (by rcases hk with hk|hk<;>omega),cF]
 rw[dF h4,cF]
theorem list3_own {n:Nat} {v:TE0} {at_:Bs}:gi n v 3 121 at_=some (match threeV v with|some _=>.inr v.ac|none=>.inl (121,at_)):=by
 unfold gi
 rcases mc v with⟨a,b,c,h,hk,hl⟩|⟨h,hk⟩
 ·rw[h,dT hk,cT,dT (by rw[hl];rfl),cT]
 rw[h]
 by_cases h4:v.ab=4
 ·rw[dT h4,cT,dF (by rcases hk with hk|hk<;>omega),cF]
 rw[dF h4,cF]
theorem c1_own {n:Nat} {v:TE0} {at_:Bs} (hn:100000≤n) (hv:v.aa.length≤5000):jb n v at_=some (c1V v at_):=by
 unfold jb c1V shp
 rw[kP hn hv,bnd]
 cases nameV v<;>rfl
theorem c2_own {n:Nat} {v:TE0} {at_:Bs} (hn:100000≤n) (hv: ∀x∈v.ac,x.aa.length≤5000):jc n v at_=some (c2V v at_):=by
 unfold jc c2V shp
 rw[qw,bnd]
 rcases iF v with⟨a,b,h,hk,hl⟩|⟨h,hk⟩
 ·rw[h]
  dsimp only
  have g0:aB v.ac 0=some a:=by rw[hl];rfl
  have g1:aB v.ac 1=some b:=by rw[hl];rfl
  rw[g0,g1,bnd,kP hn (hv a (by simp[hl])),bnd]
  cases nameV a with
  |false=>rfl
  |true=>
   rw[cT,bnd,bnd,Bool.true_and]
   cases hb:decide (b.ab=3) with
   |false=>rfl
   |true=>
    have:=hv b (by simp[hl])
    rw[cT,attr_sub (by omega) (by omega),bnd,Bool.true_and]
    cases attrS b.aa with
    |false=>rfl
    |true=>rfl
 rw[h]
theorem c3_own {n:Nat} {v:TE0} {at_:Bs} (hn:100000≤n) (hv:v.aa.length≤5000):jd n v at_=some (c3V v at_):=by
 unfold jd c3V shp
 cases hk:decide (v.ab=3) with
 |false=>rfl
 |true=>
  rw[cT,cT,lex_sub (by omega) (by omega),bnd]
  cases hz:decide ((lexS v.aa).2.2=0) with
  |false=>rfl
  |true=>rfl
theorem c4_own {n:Nat} {rc:TE0→Bs→Option (FX TG0)} {E:TE0→Bs→FX TG0} {v:TE0} {at_:Bs} (hn:100000≤n) (hat:at_.length≤1000000) (hv: ∀x∈v.ac,x.aa.length≤5000)
 (hr: ∀x∈v.ac,∀i,i≤8→rc x (plcS at_ i)=some (E x (plcS at_ i))):je n rc v at_=some (c4V E v at_):=by
 unfold je c4V shp
 rw[list3_own,bnd]
 rcases mc v with⟨a,b,c,h,hk,hl⟩|⟨h,hk⟩
 ·rw[h]
  dsimp only
  have g0:aB v.ac 0=some a:=by rw[hl];rfl
  rw[g0,bnd,kP hn (hv a (by simp[hl])),bnd]
  cases nameV a with
  |false=>rfl
  |true=>
   rw[cT,cT,bnd]
   have:=mt hn hat (by rw[hl];simp) hr 1 (by rw[hl];simp)
   have e1: ((1:Nat):Int)=1:=rfl
   have e2:v.ac.drop 1=[b,c]:=by rw[hl];rfl
   rw[e1,e2] at this
   rw[this,bnd]
   cases exL E at_ 1 [b,c]<;>rfl
 rw[h]
theorem c5_own {n:Nat} {rc:TE0→Bs→Option (FX TG0)} {E:TE0→Bs→FX TG0} {v:TE0} {at_:Bs} (hn:100000≤n) (hat:at_.length≤1000000) (hv: ∀x∈v.ac,x.aa.length≤5000)
 (hr: ∀x∈v.ac,∀i,i≤8→rc x (plcS at_ i)=some (E x (plcS at_ i))):jf n rc v at_=some (c5V E v at_):=by
 unfold jf c5V shp
 rw[qw,bnd]
 rcases iF v with⟨a,b,h,hk,hl⟩|⟨h,hk⟩
 ·rw[h]
  dsimp only
  have g0:aB v.ac 0=some a:=by rw[hl];rfl
  rw[g0,bnd,sJ hn (hv a (by simp[hl])),bnd]
  cases wordV a with
  |false=>rfl
  |true=>
   rw[cT,cT,bnd]
   have:=mt hn hat (by rw[hl];simp) hr 1 (by rw[hl];simp)
   have e1: ((1:Nat):Int)=1:=rfl
   have e2:v.ac.drop 1=[b]:=by rw[hl];rfl
   rw[e1,e2] at this
   rw[this,bnd]
   cases exL E at_ 1 [b]<;>rfl
 rw[h]
theorem c6_own {n:Nat} {rc:TE0→Bs→Option (FX TG0)} {E:TE0→Bs→FX TG0} {v:TE0} {at_:Bs} (hn:100000≤n) (hat:at_.length≤1000000)
 (hr: ∀x∈v.ac,∀i,i≤8→rc x (plcS at_ i)=some (E x (plcS at_ i))):jg n rc v at_=some (c6V E v at_):=by
 unfold jg c6V shp
 rw[qw,bnd]
 rcases iF v with⟨a,b,h,hk,hl⟩|⟨h,hk⟩
 ·rw[h]
  dsimp only
  have:=mt hn hat (by rw[hl];simp) hr 0 (by rw[hl];simp)
  have e1: ((0:Nat):Int)=0:=rfl
  have e2:v.ac.drop 0=[a,b]:=by rw[hl];rfl
  rw[e1,e2] at this
  rw[this,bnd]
  cases exL E at_ 0 [a,b]<;>rfl
 rw[h]
theorem one_key {v:TE0} (hp:PlainV v) (hk:v.ab=5) (h1:v.af.length=1): ∃key x,v.af=[key]∧v.ac=[x]:=by
 have hl:v.af.length=v.ac.length:=hp.2.2.2.2.2.2.1 hk
 match hks:v.af,hls:v.ac with
 |[key],[x]=>exact⟨key,x,rfl,rfl⟩
 |[key],[]=>rw[hks,hls] at hl;simp at hl
 |[key],_::_::_=>rw[hks,hls] at hl;simp at hl
 |[],_=>rw[hks] at h1;simp at h1
 |_::_::_,_=>rw[hks] at h1;simp at h1
theorem mH {E:TE0→Bs→FX TG0} {v:TE0} {at_:Bs} (h3:v.ab≠3) (h2:v.ab≠2) (h4:v.ab≠4) (h1:v.af.length≠1):exprB E v at_=shp at_:=by
 unfold exprB
 rw[dF h3,cF,dF h2,cF,dF h4,cF]
 match hks:v.af with
 |[]=>rfl
 |[_]=>rw[hks] at h1;simp at h1
 |_::_::_=>rfl
theorem rQ {E:TE0→Bs→FX TG0} {v x:TE0} {key at_:Bs} (h5:v.ab=5) (hk:v.af=[key]) (hl:v.ac=[x]):exprB E v at_=callV E key x (undS at_ key):=by
 unfold exprB
 rw[dF (by omega),cF,dF (by omega),cF,dF (by omega),cF,hk,hl]
theorem joinbr {α β:Type} (x:Option β) (f:α→Option β): ((x.map Lp.br:Option (Lp α β)).bind λj=>joinF j f)=x:=by cases x<;>rfl
theorem kE: ∀ {d:Nat} {x y:TE0},Small d x→y∈x.ac→Small d y
 |0,_,_,h,_=>h.elim
 |_+1,_,_,h,hy=>Small.le (Nat.le_succ _) (h.2.2.2.2 _ hy)
theorem pG {n:Nat} (hn:100000≤n): ∀ (k d:Nat) (v:TE0) (at_:Bs),d≤k→Small d v→OkV v→at_.length+6000*d≤900000→dL n k v at_=some (exprV d v at_)
 |_,0,v,_,_,h,_,_=>h.elim
 |0,d+1,v,_,h,_,_,_=>absurd h (by omega)
 |k+1,d+1,v,at_,hk,hs,hok,hat=>by
  have hs0:=hs
  obtain⟨s1,s2,s3,s4,s5⟩:=hs
  have hp:=OkV.plain hok
  have ih: ∀x∈v.ac,∀p:Bs,p.length+6000*d≤900000→dL n k x p=some (exprV d x p):=λx hx p h=>pG hn k d x p (by omega) (s5 x hx) (hok.part hx) h
  show jM n (dL n k) v at_=some (exprB (exprV d) v at_)
  unfold jM
  cases h3:decide (v.ab=3) with
  |true=>
   rw[cT,sJ hn s3,bnd,exprB,h3,cT]
   cases wordV v<;>rfl
  |false=>
   rw[cF]
   cases h2:decide (v.ab=2) with
   |true=>rw[cT,exprB,h3,cF,h2,cT]
   |false=>
    rw[cF]
    cases h4:decide (v.ab=4) with
    |true=>
     rw[cT,exprB,h3,cF,h2,cF,h4,cT]
     cases h8:decide (((v.ac.length:Nat):Int)≤8) with
     |false=>rfl
     |true=>
      have h8':=of_decide_eq_true h8
      have:=mt hn (E:=exprV d) (rc:=dL n k) (l:=v.ac) (at_:=at_) (by omega) (by omega) (λx hx i hi=>ih x hx _ (by have:=lC (a:=at_) hi;omega)) 0 (by omega)
      have e1: ((0:Nat):Int)=0:=rfl
      rw[e1,List.drop_zero] at this
      rw[cT,cT,this,bnd]
      cases exL (exprV d) at_ 0 v.ac<;>rfl
    |false=>
     have k3:=of_decide_eq_false h3
     have k2:=of_decide_eq_false h2
     have k4:=of_decide_eq_false h4
     rw[cF]
     cases h5:decide (v.ab=5) with
     |false=>
      rw[cF,mH k3 k2 k4 (λh=>of_decide_eq_false h5 (Classical.byContradiction λh'=>by have:=hp.2.2.2.2.2.2.2 h';omega)),joinbr]
      rfl
     |true=>
      rw[cT]
      cases h1:decide (((v.af.length:Nat):Int)=1) with
      |false=>
       rw[cF,mH k3 k2 k4 (λh=>of_decide_eq_false h1 (by omega)),joinbr]
       rfl
      |true=>
       obtain⟨key,x,hks,hls⟩:=one_key hp (of_decide_eq_true h5) (by have:=of_decide_eq_true h1;omega)
       have hx:x∈v.ac:=by rw[hls];simp
       have hkey:key.length≤5000:=s4 key (by rw[hks];simp)
       have hxs:x.aa.length≤5000:=(Small.wide (s5 x hx)).2.2.1
       have hxl: ∀y∈x.ac,y.aa.length≤5000:=λy hy=>(Small.wide (kE (s5 x hx) hy)).2.2.1
       have g0:aB v.af 0=some key:=by rw[hks];rfl
       have g1:aB v.ac 0=some x:=by rw[hls];rfl
       have hu:=me (n:=n) (a:=at_) (k:=key) (by omega) (by omega)
       have hul:=kZ at_ key
       have hr: ∀y∈x.ac,∀i,i≤8→dL n k y (plcS (undS at_ key) i)=some (exprV d y (plcS (undS at_ key) i)):=λy hy i hi=>by
        have hpl:=lC (a:=undS at_ key) hi
        exact pG hn k d y (plcS (undS at_ key) i) (by omega) (kE (s5 x hx) hy) ((hok.part hx).part hy) (by omega)
       rw[rQ (of_decide_eq_true h5) hks hls,cT,bnd,joinF,g0,bnd,ti,bnd]
       unfold callV
       cases decide (key=[82,101,102]) with
       |true=>rw[cT,cT,hu,bnd,g1,bnd,bnd,c1_own hn hxs,bnd];cases c1V x (undS at_ key)<;>rfl
       |false=>
        rw[cF,cF]
        cases decide (key=[71,101,116,65,116,116]) with
        |true=>rw[cT,cT,hu,bnd,g1,bnd,bnd,c2_own hn hxl,bnd];cases c2V x (undS at_ key)<;>rfl
        |false=>
         rw[cF,cF]
         cases decide (key=[83,117,98]) with
         |true=>rw[cT,cT,hu,bnd,g1,bnd,bnd,c3_own hn hxs,bnd];cases c3V x (undS at_ key)<;>rfl
         |false=>
          rw[cF,cF]
          cases decide (key=[73,102]) with
          |true=>rw[cT,cT,hu,bnd,g1,bnd,bnd,c4_own hn (by omega) hxl hr,bnd];cases c4V (exprV d) x (undS at_ key)<;>rfl
          |false=>
           rw[cF,cF]
           cases decide (key=[74,111,105,110]) with
           |true=>rw[cT,cT,hu,bnd,g1,bnd,bnd,c5_own hn (by omega) hxl hr,bnd];cases c5V (exprV d) x (undS at_ key)<;>rfl
           |false=>
            rw[cF,cF]
            cases decide (key=[83,101,108,101,99,116]) with
            |true=>rw[cT,cT,hu,bnd,g1,bnd,bnd,c6_own hn (by omega) hr,bnd];cases c6V (exprV d) x (undS at_ key)<;>rfl
            |false=>
             rw[cF,cF,hu,bnd]
             rfl
def mW (n:Nat) (d0:Bs):Option Bool:=
 bif(decide ((d0.length:Int)≤64)) then
  ((hP n d0).bind λX1=>
  some ((X1)))
 else
  some ((false))
theorem sT (n:Nat) (M:Mem) (d0:Bs) (r:Bool) (hF:mW n d0=some r):Ok Tryz.prog M 87 [S d0] (λ_ v=>v=bO r):=by
 unfold mW at hF
 intro M1 hM0 w0 H w p0
 refine Re 10 Tryz.func87 rfl λa0 f0=>RR (Ye f0 1 λ_ f=>RR (Y f 4 λ_ f=>?_))
 rcases cE hF with⟨B1,F1⟩|⟨B1,F3⟩
 ·have f:=f.st 6 (cB B1)
  refine Y f 1 λ_ f=>?_
  obtain⟨X1,l1,F2⟩:=bS F1
  refine Y9 f p0 (kf n _ d0 X1 l1) λW1 N1 _ f=>Ye f 2 λ_ f=>wp_ret (am f rfl (Lk 2 (bO X1)) ?_)
  cases sI F2
  exact⟨_,rfl,M1,mL,N1.kr,rfl⟩
 have f:=f.st 6 (cB B1)
 refine Ye f 4 λ_ f=>wp_ret (am f rfl (Lk 2 (bO false)) ?_)
 cases sI F3
 exact⟨_,rfl,M1,mL,p0.kr,rfl⟩
def iZ (n:Nat) (d0:TE0):Option Bool:=
 bif(decide (d0.ab=3)) then
  ((mW n d0.aa).bind λX1=>
  some ((X1)))
 else
  some ((false))
theorem mp (n:Nat) (M:Mem) (c0:Lv) (d0:TE0) (h0:Rep M (ai d0) c0) (r:Bool) (hF:iZ n d0=some r):Ok Tryz.prog M 39 [.agg c0.toArray] (λ_ v=>v=bO r):=by
 unfold iZ at hF
 intro M1 hM0 w0 H w p0
 replace h0:=Rep.mono hM0 _ _ h0
 obtain⟨Z1,P1,Z2,P2,rfl,B1,B2⟩:=TE0.opn h0
 refine Re 11 Tryz.func39 rfl λa0 f0=>RR (Y5 (cs:=(aTE0 d0 Z1 P1 Z2 P2)) (T:=26) f0 p0 λQ1 V1 W1 J1 R1 N1 _ f=>?_)
 have R2:=aU R1
 refine Ye f 1 λ_ f=>RR (Y f 1 λ_ f=>Y7 f N1 R2 0 rfl λ_ f=>Y f 2 λ_ f=>?_)
 rcases cE hF with⟨B3,F1⟩|⟨B3,F3⟩
 ·have f:=f.st 6 (cB B3)
  refine Y f 1 λ_ f=>Y7 f N1 R2 3 rfl λ_ f=>?_
  obtain⟨X1,l1,F2⟩:=bS F1
  refine Y9 f N1 (sT n _ d0.aa X1 l1) λW2 N2 _ f=>Ye f 2 λ_ f=>wp_ret (am f rfl (Lk 2 (bO X1)) ?_)
  cases sI F2
  exact⟨_,rfl,_,J1,N2.kr,rfl⟩
 have f:=f.st 6 (cB B3)
 refine Ye f 5 λ_ f=>wp_ret (am f rfl (Lk 2 (bO false)) ?_)
 cases sI F3
 exact⟨_,rfl,_,J1,N1.kr,rfl⟩
def aq (n:Nat) (aO:Int) (aC:Bs) (d1:Int) (d2:Bs):Option (Int×Bs):=
 bif(decide (aO=0)) then
  (some ((d1,d2)))
 else
  some ((aO,aC))
theorem ax (n:Nat) (M:Mem) (b0:Nat) (aO:Int) (aC:Bs) (d1:Int) (d2:Bs) (r:Int×Bs) (hF:aq n aO aC d1 d2=some r):OkH Tryz.prog M [oC b0 #[iL aO,S aC] 54] 40 [pP b0,iL d1,S d2] (λM' E' v=>v=.tuple #[]∧E'=[oC b0 #[iL r.1,S r.2] 54]):=by
 unfold aq at hF
 intro M1 hM0 w0 H w p0
 refine Re 19 Tryz.func40 rfl λa0 f0=>RR (Y f0 3 λ_ f=>Z f (XO p0 0) λ_ f=>Ye f 1 λ_ f=>RcF f hF (λB1 F1=>?_) λB1 F2=>?_)
 ·refine RR (Y f 4 λ_ f=>Wt f p0 0 0 (iL d1) λW1 N1 _ f=>eT (ay (Y f 4 λ_ f=>Wt f N1 0 1 (S d2) λW2 N2 _ f=>ag rfl (eN f rfl ?_))))
  cases sI F1
  exact⟨_,rfl,M1,_,mL,N2.kr,⟨rfl,rfl⟩⟩
 refine wp_skip (eN f rfl ?_)
 cases sI F2
 exact⟨_,rfl,M1,_,mL,p0.kr,⟨rfl,rfl⟩⟩
def bt (n:Nat) (d0:Bs) (d1:Bs):Option Bs:=
 bif(decide (d0=[])) then
  (some (d1))
 else
  aL (d0.length+ [47].length≤9223372036854775807)<|
  aL ((d0++[47]).length+d1.length≤9223372036854775807)<|
  some ((d0++[47])++d1)
theorem be (n:Nat) (M:Mem) (d0:Bs) (d1:Bs) (r:Bs) (hF:bt n d0 d1=some r):Ok Tryz.prog M 43 [S d0,S d1] (λ_ v=>v=S r):=by
 unfold bt at hF
 intro M1 hM0 w0 H w p0
 refine Re 12 Tryz.func43 rfl λa0 f0=>RR (Ye f0 1 λ_ f=>ah (RR (Y f 1 λ_ f=>Z f (Y11 rfl (l:=d0) (m:=[])) λ_ f=>eT (RcF f hF (λB1 F1=>?_) λB1 F2=>?_))))
 ·refine RR (Ye f 2 λ_ f=>wp_ret (bl (am f rfl (Lk 4 (S d1)) ?_)))
  cases sI F1
  exact⟨_,rfl,M1,mL,p0.kr,rfl⟩
 refine St (RR (Y f 1 λ_ f=>?_))
 obtain⟨O1,F3⟩:=nS F2
 refine Z f (kJ rfl (l:=d0) (m:=[47]) kr kr O1) λ_ f=>Y f 1 λ_ f=>?_
 obtain⟨O2,F4⟩:=nS F3
 refine Z f (kJ rfl (l:=d0++[47]) (m:=d1) kr kr O2) λ_ f=>Ye f 1 λ_ f=>wp_ret (am f rfl (Lk 4 (S ((d0++[47])++d1))) ?_)
 cases sI F4
 exact⟨_,rfl,M1,mL,p0.kr,rfl⟩
def bx (n:Nat) (d0:Bs) (d1:Int):Option Bs:=
 (mI n d1).bind λX1=>
 (bt n d0 X1.1).bind λX2=>
 some (X2)
theorem cH (n:Nat) (M:Mem) (d0:Bs) (d1:Int) (r:Bs) (hF:bx n d0 d1=some r):Ok Tryz.prog M 41 [S d0,iL d1] (λ_ v=>v=S r):=by
 unfold bx at hF
 intro M1 hM0 w0 H w p0
 refine Re 15 Tryz.func41 rfl λa0 f0=>RR (Ye f0 1 λ_ f=>RR (Y f 1 λ_ f=>?_))
 obtain⟨X1,l1,F1⟩:=bS hF
 refine Y9 f p0 (sQ n _ d1 X1 l1) λW1 N1 _ f=>Ye f 5 λ_ f=>RR (Y f 2 λ_ f=>?_)
 obtain⟨X2,l2,F2⟩:=bS F1
 refine Y9 f N1 (be n _ d0 X1.1 X2 l2) λW2 N2 _ f=>Ye f 1 λ_ f=>wp_ret (am f rfl (Lk 4 (S X2)) ?_)
 cases sI F2
 exact⟨_,rfl,M1,mL,N2.kr,rfl⟩
def dU (n:Nat) (d0:TE0):Option Bool:=
 bif(decide (d0.ab=3)) then
  ((gt n d0.aa).bind λX1=>
  some ((X1)))
 else
  some ((false))
theorem gf (n:Nat) (M:Mem) (c0:Lv) (d0:TE0) (h0:Rep M (ai d0) c0) (r:Bool) (hF:dU n d0=some r):Ok Tryz.prog M 89 [.agg c0.toArray] (λ_ v=>v=bO r):=by
 unfold dU at hF
 intro M1 hM0 w0 H w p0
 replace h0:=Rep.mono hM0 _ _ h0
 obtain⟨Z1,P1,Z2,P2,rfl,B1,B2⟩:=TE0.opn h0
 refine Re 11 Tryz.func89 rfl λa0 f0=>RR (Y5 (cs:=(aTE0 d0 Z1 P1 Z2 P2)) (T:=26) f0 p0 λQ1 V1 W1 J1 R1 N1 _ f=>?_)
 have R2:=aU R1
 refine Ye f 1 λ_ f=>RR (Y f 1 λ_ f=>Y7 f N1 R2 0 rfl λ_ f=>Y f 2 λ_ f=>?_)
 rcases cE hF with⟨B3,F1⟩|⟨B3,F3⟩
 ·have f:=f.st 6 (cB B3)
  refine Y f 1 λ_ f=>Y7 f N1 R2 3 rfl λ_ f=>?_
  obtain⟨X1,l1,F2⟩:=bS F1
  refine Y9 f N1 (gN n _ d0.aa X1 l1) λW2 N2 _ f=>Ye f 2 λ_ f=>wp_ret (am f rfl (Lk 2 (bO X1)) ?_)
  cases sI F2
  exact⟨_,rfl,_,J1,N2.kr,rfl⟩
 have f:=f.st 6 (cB B3)
 refine Ye f 5 λ_ f=>wp_ret (am f rfl (Lk 2 (bO false)) ?_)
 cases sI F3
 exact⟨_,rfl,_,J1,N1.kr,rfl⟩
def eH (n:Nat) (rec_ref13_reader_expr:Int→Bs→TE0→Bs→Option (TG0×Int×Bs)) (aO:Int) (aC:Bs) (d1:Bs) (d2:TE0) (d3:Bs):Option (TG0×Int×Bs):=
 ((bif(decide (d1=[82,101,102])) then
  ((dU n d2).bind λX1=>
  bif X1 then
   (((some (((⟨(3:Int),([]:Bs),(0:Int),d2.aa,([]:Bs),([]:List TG0)⟩:TG0),aO,aC)):Option (TG0×Int×Bs))).map Lp.br)
  else
   some (.nx ()))
   else
    bif(decide (d1=[71,101,116,65,116,116])) then
     (((bif(decide (d2.ab=4)) then
      (bif(decide (((d2.ac.length:Nat):Int)=2)) then
       ((aB d2.ac (0:Int)).bind λX2=>
       (dU n X2).bind λX3=>
       bif X3 then
        ((aB d2.ac (1:Int)).bind λX4=>
        bif(decide (X4.ab=3)) then
         ((aB d2.ac (1:Int)).bind λX5=>
         (jS n X5.aa).bind λX6=>
         some ((X6)))
        else
         some ((false)))
       else
        some ((false)))
      else
       some ((false)))
       else
        some ((false)):Option Bool)).bind λG1=>
     bif G1 then
      ((aB d2.ac (0:Int)).bind λX7=>
      (aB d2.ac (1:Int)).bind λX8=>
      ((some (((⟨(4:Int),([]:Bs),(0:Int),X7.aa,X8.aa,([]:List TG0)⟩:TG0),aO,aC)):Option (TG0×Int×Bs))).map Lp.br)
     else
      some (.nx ()))
    else
     bif(decide (d1=[83,117,98])) then
      (bif(decide (d2.ab=3)) then
       ((my n d2.aa).bind λX9=>
       bif(!(decide (X9.2.2=0))) then
        ((aq n aO aC X9.2.2 d3).bind λX10=>
        ((some (((⟨(5:Int),([]:Bs),(0:Int),([]:Bs),([]:Bs),X9.1⟩:TG0),X10.1,X10.2)):Option (TG0×Int×Bs))).map Lp.br)
       else
        ((some (((⟨(5:Int),([]:Bs),(0:Int),([]:Bs),([]:Bs),X9.1⟩:TG0),aO,aC)):Option (TG0×Int×Bs))).map Lp.br)
      else
       some (.nx ()))
     else
      bif(decide (d1=[73,102])) then
       (((bif(decide (d2.ab=4)) then
        (bif(decide (((d2.ac.length:Nat):Int)=3)) then
         ((aB d2.ac (0:Int)).bind λX11=>
         (dU n X11).bind λX12=>
         some ((X12)))
        else
         some ((false)))
         else
          some ((false)):Option Bool)).bind λG2=>
       bif G2 then
        ((((aB d2.ac (1:Int)).bind λX13=>
          (bx n d3 (1:Int)).bind λX14=>
          (rec_ref13_reader_expr aO aC X13 X14).bind λX15=>
          some ((X15.1,X15.2.1,X15.2.2)):Option (TG0×Int×Bs))).bind λG3=>
        (((aB d2.ac (2:Int)).bind λX20=>
          (bx n d3 (2:Int)).bind λX21=>
          (rec_ref13_reader_expr G3.2.1 G3.2.2 X20 X21).bind λX22=>
          some ((X22.1,X22.2.1,X22.2.2)):Option (TG0×Int×Bs))).bind λG4=>
        (aB d2.ac (0:Int)).bind λX27=>
        ((some (((⟨(6:Int),([]:Bs),(0:Int),X27.aa,([]:Bs),[G3.1,G4.1]⟩:TG0),G4.2.1,G4.2.2)):Option (TG0×Int×Bs))).map Lp.br)
       else
        some (.nx ()))
      else
       bif(decide (d1=[74,111,105,110])) then
        (((bif(decide (d2.ab=4)) then
         (bif(decide (((d2.ac.length:Nat):Int)=2)) then
          ((aB d2.ac (0:Int)).bind λX28=>
          (iZ n X28).bind λX29=>
          some ((X29)))
         else
          some ((false)))
          else
           some ((false)):Option Bool)).bind λG5=>
        bif G5 then
         ((((aB d2.ac (1:Int)).bind λX30=>
           (bx n d3 (1:Int)).bind λX31=>
           (rec_ref13_reader_expr aO aC X30 X31).bind λX32=>
           some ((X32.1,X32.2.1,X32.2.2)):Option (TG0×Int×Bs))).bind λG6=>
         (aB d2.ac (0:Int)).bind λX37=>
         ((some (((⟨(7:Int),X37.aa,(0:Int),([]:Bs),([]:Bs),[G6.1]⟩:TG0),G6.2.1,G6.2.2)):Option (TG0×Int×Bs))).map Lp.br)
        else
         some (.nx ()))
       else
        bif(decide (d1=[83,101,108,101,99,116])) then
         (((bif(decide (d2.ab=4)) then
          (some ((decide (((d2.ac.length:Nat):Int)=2))))
           else
            some ((false)):Option Bool)).bind λG7=>
         bif G7 then
          ((((aB d2.ac (0:Int)).bind λX38=>
            (bx n d3 (0:Int)).bind λX39=>
            (rec_ref13_reader_expr aO aC X38 X39).bind λX40=>
            some ((X40.1,X40.2.1,X40.2.2)):Option (TG0×Int×Bs))).bind λG8=>
          (((aB d2.ac (1:Int)).bind λX45=>
            (bx n d3 (1:Int)).bind λX46=>
            (rec_ref13_reader_expr G8.2.1 G8.2.2 X45 X46).bind λX47=>
            some ((X47.1,X47.2.1,X47.2.2)):Option (TG0×Int×Bs))).bind λG9=>
          ((some (((⟨(8:Int),([]:Bs),(0:Int),([]:Bs),([]:Bs),[G8.1,G9.1]⟩:TG0),G9.2.1,G9.2.2)):Option (TG0×Int×Bs))).map Lp.br)
         else
          some (.nx ()))
        else
         some (.nx ()):Option (Lp Unit (TG0×Int×Bs)))).bind λj=>joinF j λG10=>
 (aq n aO aC (121:Int) d3).bind λX52=>
 some ((aQ,X52.1,X52.2))
set_option maxRecDepth 20000 in
theorem nR (n:Nat) (rec_ref13_reader_expr:Int→Bs→TE0→Bs→Option (TG0×Int×Bs)) (hrec_ref13_reader_expr: ∀ (M:Mem) (b0:Nat) (aO:Int) (aC:Bs) (c1:Lv) (d1:TE0) (h1:Rep M (ai d1) c1) (d2:Bs) (r:TG0×Int×Bs) (hF:rec_ref13_reader_expr aO aC d1 d2=some r),OkH Tryz.prog M [oC b0 #[iL aO,S aC] 54] 20 [pP b0,.agg c1.toArray,S d2] (λM' E' v=>∃ (c0:Lv),v=.agg c0.toArray∧E'=[oC b0 #[iL r.2.1,S r.2.2] 54]∧Rep M' (aA r.1) c0)) (M:Mem) (b0:Nat) (aO:Int) (aC:Bs) (d1:Bs) (c2:Lv) (d2:TE0) (h2:Rep M (ai d2) c2) (d3:Bs) (r:TG0×Int×Bs) (hF:eH n rec_ref13_reader_expr aO aC d1 d2 d3=some r):OkH Tryz.prog M [oC b0 #[iL aO,S aC] 54] 42 [pP b0,S d1,.agg c2.toArray,S d3] (λM' E' v=>∃ (c0:Lv),v=.agg c0.toArray∧E'=[oC b0 #[iL r.2.1,S r.2.2] 54]∧Rep M' (aA r.1) c0):=by
 unfold eH at hF
 intro M1 hM0 w0 H w p0
 replace h2:=Rep.mono hM0 _ _ h2
 obtain⟨Z1,P1,Z2,P2,rfl,B1,B2⟩:=TE0.opn h2
 refine Re 202 Tryz.func42 rfl λa0 f0=>RR (Y5 (cs:=(aTE0 d2 Z1 P1 Z2 P2)) (T:=26) f0 p0 λQ1 V1 W1 J1 R1 N1 _ f=>?_)
 have R2:=aU R1
 refine Y4 f N1 (.cells #[iB 0,S [],iL 0,S [],S [],Sn] 31 (0,0)) λQ2 W2 N2 _ f=>eT (ah (RR (Ye f 1 λ_ f=>?_)))
 obtain⟨eF,cL,F1⟩:=bS hF
 refine aW (λa_250 W116=>∃G10,eF=.nx G10∧∃V43,V1.le V43∧Frm 202 (kpL [0,3,8] f.fr) a_250∧Hp w0 V43 (N2.en) W116) ?_ ?_
 ·refine wp_block (RR (Z f (Y11 rfl (l:=d1) (m:=[82,101,102])) λ_ f=>Ye f 1 λ_ f=>RcF f cL (λB3 F2=>?_) λB3 F7=>?_))
  ·refine RR (Z f (XK N2 R2 0) λ_ f=>?_)
   obtain⟨X1,l1,F3⟩:=bS F2
   refine Y9 f N2 (gf n _ _ d2 h2.mo X1 l1) λW3 N3 _ f=>eT (RcF f F3 (λB4 F4=>?_) λB4 F6=>?_)
   ·refine RR (Y f 1 λ_ f=>Y7 f N3 R2 3 rfl λ_ f=>Y f 1 λ_ f=>Wu f N3 0 0 [iB 3,S [],iL 0,S d2.aa,S [],Sn] λW4 N4 _ f=>Er (eu ?_))
    have F5:=bw F4 F1
    refine bl (bl (bM f rfl (Rv.oN [iB 3,S [],iL 0,S d2.aa,S [],Sn] f N4 0 0) ?_))
    cases sI F5
    exact⟨_,rfl,_,_,J1,(N4.dropN 1).kr,⟨_,rfl,rfl,(TG0.shutx Sli.nil)⟩⟩
   refine wp_skip (ec (az ?_))
   exact⟨_,(sI F6).symm,_,mL,f.kp,N3.kr⟩
  refine RR (Z f (Y11 rfl (l:=d1) (m:=[71,101,116,65,116,116])) λ_ f=>Ye f 1 λ_ f=>RcF f F7 (λB5 F8=>?_) λB5 F28=>?_)
  ·refine ah ?_
   obtain⟨lb,iJ,F9⟩:=bS F8
   refine aW (λa_43 W7=>∃G1,lb=G1∧∃V2,V1.le V2∧Frm 202 ((58,bO G1)::kpL [0,3,6,8] f.fr) a_43∧Hp w0 V2 (N2.en) W7) ?_ ?_
   ·refine ay (Y f 1 λ_ f=>Y7 f N2 R2 0 rfl λ_ f=>Y f 2 λ_ f=>?_)
    rcases cE iJ with⟨B6,F10⟩|⟨B6,F22⟩
    ·have f:=f.st 30 (cB B6)
     refine Y f 1 λ_ f=>Y7 f N2 R2 4 rfl λ_ f=>Y f 4 λ_ f=>?_
     rcases cE F10 with⟨B7,F11⟩|⟨B7,F21⟩
     ·have f:=f.st 36 (cB B7)
      refine Y f 1 λ_ f=>Y7 f N2 R2 4 rfl λ_ f=>?_
      obtain⟨X2,l2,F12⟩:=bS F11
      obtain⟨C1,dW,jC,D1,R3⟩:=N2.at_ B1 l2
      obtain⟨Z3,P3,Z4,P4,rfl,B8,B9⟩:=TE0.opn D1
      refine Z f (XI jC l2) λ_ f=>Z f (XK N2 R3 0) λ_ f=>?_
      obtain⟨X3,l3,F13⟩:=bS F12
      refine Y9 f N2 (gf n _ _ X2 D1.mo X3 l3) λW5 N5 _ f=>Y f 2 λ_ f=>?_
      rcases cE F13 with⟨B10,F14⟩|⟨B10,F20⟩
      ·have f:=f.st 43 (cB B10)
       refine Y f 1 λ_ f=>Y7 f N5 R2 4 rfl λ_ f=>?_
       obtain⟨X4,l4,F15⟩:=bS F14
       obtain⟨C2,ie,ly,D2,R4⟩:=N5.at_ B1 l4
       obtain⟨Z5,P5,Z6,P6,rfl,B11,B12⟩:=TE0.opn D2
       refine Z f (XI ly l4) λ_ f=>Y f 1 λ_ f=>Y7 f N5 R4 0 rfl λ_ f=>Y f 3 λ_ f=>?_
       rcases cE F15 with⟨B13,F16⟩|⟨B13,F19⟩
       ·have f:=f.st 51 (cB B13)
        refine Y f 1 λ_ f=>Y7 f N5 R2 4 rfl λ_ f=>?_
        obtain⟨X5,l5,F17⟩:=bS F16
        obtain⟨C3,lQ,qm,D3,R5⟩:=N5.at_ B1 l5
        obtain⟨Z7,P7,Z8,P8,rfl,B14,B15⟩:=TE0.opn D3
        refine Z f (XI qm l5) λ_ f=>Y f 1 λ_ f=>Y7 f N5 R5 3 rfl λ_ f=>?_
        obtain⟨X6,l6,F18⟩:=bS F17
        refine Y9 f N5 (oI n _ X5.aa X6 l6) λW6 N6 _ f=>Ye f 1 λ_ f=>?_
        exact⟨_,(sI F18).symm,_,mL,f.kp,N6.kr⟩
       have f:=f.st 51 (cB B13)
       refine Ye f 7 λ_ f=>?_
       exact⟨_,(sI F19).symm,_,mL,f.kp,N5.kr⟩
      have f:=f.st 43 (cB B10)
      refine Ye f 15 λ_ f=>?_
      exact⟨_,(sI F20).symm,_,mL,f.kp,N5.kr⟩
     have f:=f.st 36 (cB B7)
     refine Ye f 22 λ_ f=>?_
     exact⟨_,(sI F21).symm,_,mL,f.kp,N2.kr⟩
    have f:=f.st 30 (cB B6)
    refine Ye f 28 λ_ f=>?_
    exact⟨_,(sI F22).symm,_,mL,f.kp,N2.kr⟩
   rintro a_43 W7 ⟨G1,eS,V2,J2,f,N7⟩
   dsimp only[Hp.en] at N7
   subst lb
   refine az (RcF f F9 (λB16 F23=>?_) λB16 F27=>?_)
   ·refine ah (po 11 N7 kr kr λW8 N8=>cY (v:=Pa ((⟨Q1,0,none⟩:Addr).add 4)) f kr kr rfl rfl kr λ_ f=>cY f kr kr rfl rfl (XK N8 R2 4) λ_ f=>?_)
    obtain⟨X7,l7,F24⟩:=bS F23
    obtain⟨C4,rJ,qn,D4,R6⟩:=N8.at_ B1 l7
    obtain⟨Z9,P9,Z10,P10,rfl,B17,B18⟩:=TE0.opn D4
    refine cY f kr kr rfl rfl (XI qn l7) λ_ f=>cY (v:=Pa ((C4.add ((0:Int).toNat*6)).add 3)) f kr kr rfl rfl kr λ_ f=>cY f kr kr rfl rfl (XK N8 R6 3) λ_ f=>cY (v:=Pa ((⟨Q1,0,none⟩:Addr).add 4)) f kr kr rfl rfl kr λ_ f=>cY f kr kr rfl rfl (XK N8 R2 4) λ_ f=>?_
    obtain⟨X8,l8,F25⟩:=bS F24
    obtain⟨C5,c_5,e_5,D5,R7⟩:=N8.at_ B1 l8
    obtain⟨Z11,P11,Z12,P12,rfl,B19,B20⟩:=TE0.opn D5
    refine cY f kr kr rfl rfl (XI e_5 l8) λ_ f=>cY (v:=Pa ((C5.add ((1:Int).toNat*6)).add 3)) f kr kr rfl rfl kr λ_ f=>cY f kr kr rfl rfl (XK N8 R7 3) λ_ f=>cY (v:=.agg #[iB 4,S [],iL 0,S X7.aa,S X8.aa,Sn]) f kr kr rfl rfl kr λ_ f=>qi rfl (Wu f N8 0 0 [iB 4,S [],iL 0,S X7.aa,S X8.aa,Sn] λW9 N9 _ f=>Er (eu ?_))
    have F26:=bw F25 F1
    refine bl (bl (bM f rfl (Rv.oN [iB 4,S [],iL 0,S X7.aa,S X8.aa,Sn] f N9 0 0) ?_))
    cases sI F26
    exact⟨_,rfl,_,_,mL,(N9.dropN 1).kr,⟨_,rfl,rfl,(TG0.shutx Sli.nil)⟩⟩
   refine wp_skip (ec (az ?_))
   exact⟨_,(sI F27).symm,_,J2,f.kp,N7.kr⟩
  refine RR (Z f (Y11 rfl (l:=d1) (m:=[83,117,98])) λ_ f=>Ye f 1 λ_ f=>RcF f F28 (λB21 F29=>?_) λB21 F38=>?_)
  ·refine RR (Y f 1 λ_ f=>Y7 f N2 R2 0 rfl λ_ f=>Ye f 1 λ_ f=>RcF f F29 (λB22 F30=>?_) λB22 F37=>?_)
   ·refine RR (Y f 1 λ_ f=>Y7 f N2 R2 3 rfl λ_ f=>?_)
    obtain⟨X9,l9,F31⟩:=bS F30
    refine Ch f N2 (ref12_Lex_ok n _ d2.aa X9 l9) λ_ V3 mG W10 J3 N10 ef _ f=>?_
    obtain⟨Z13,P13,L1,rfl,rfl,D6⟩:=ef
    refine Ye f 7 λ_ f=>ah (RR (Ye f 2 λ_ f=>RcF f F31 (λB23 F32=>?_) λB23 F35=>?_))
    ·refine ay (Y f 3 λ_ f=>?_)
     obtain⟨X10,l10,F33⟩:=bS F32
     have N12:=N10.pl [2]
     refine Ch f N12 (ax n _ b0 aO aC X9.2.2 d3 X10 l10) λ_ V4 rB W11 J4 N11 iK _ f=>?_
     obtain⟨rfl,rfl⟩:=iK
     refine eT (RR (Y f 2 λ_ f=>?_))
     obtain⟨Z14,P14,V5,H1,J5,N13,B24⟩:=N11.rowSliK (f:=aA) (xs:=X9.1) 1 31 Z13 P13 bT D6.mo
     have f:=Frm.set f 89 (v:=.agg #[.int .i8 5,S [],.int .i64 0,S [],S [],.slice Z13 X9.1.length P13]) (v':=.agg #[.int .i8 5,S [],.int .i64 0,S [],S [],.slice Z14 X9.1.length P14]) (by kernel_rfl) (by rw[H1])
     refine Wu f N13 1 0 [iB 5,S [],iL 0,S [],S [],sL Z14 X9.1 P14] λW12 N14 _ f=>Er (eu ?_)
     have F34:=bw F33 F1
     refine bl (bl (bM f rfl (Rv.oN [iB 5,S [],iL 0,S [],S [],sL Z14 X9.1 P14] f N14 1 0) ?_))
     cases sI F34
     have N15:=N14.pl [1]
     exact⟨_,rfl,_,_,mL,(N15.dropN 1).kr,⟨_,rfl,rfl,(TG0.shutx B24)⟩⟩
    refine St (RR (Y f 2 λ_ f=>?_))
    obtain⟨Z15,P15,V6,H2,J6,N16,B25⟩:=N10.rowSliK (f:=aA) (xs:=X9.1) 0 31 Z13 P13 bT D6
    have f:=Frm.set f 89 (v:=.agg #[.int .i8 5,S [],.int .i64 0,S [],S [],.slice Z13 X9.1.length P13]) (v':=.agg #[.int .i8 5,S [],.int .i64 0,S [],S [],.slice Z15 X9.1.length P15]) (by kernel_rfl) (by rw[H2])
    refine Wu f N16 0 0 [iB 5,S [],iL 0,S [],S [],sL Z15 X9.1 P15] λW13 N17 _ f=>Er (eu ?_)
    have F36:=bw F35 F1
    refine bl (bl (bM f rfl (Rv.oN [iB 5,S [],iL 0,S [],S [],sL Z15 X9.1 P15] f N17 0 0) ?_))
    cases sI F36
    exact⟨_,rfl,_,_,mL,(N17.dropN 1).kr,⟨_,rfl,rfl,(TG0.shutx B25)⟩⟩
   refine wp_skip (ec (az ?_))
   exact⟨_,(sI F37).symm,_,mL,f.kp,N2.kr⟩
  refine RR (Z f (Y11 rfl (l:=d1) (m:=[73,102])) λ_ f=>Ye f 1 λ_ f=>RcF f F38 (λB26 F39=>?_) λB26 F59=>?_)
  ·refine ah ?_
   obtain⟨ns,la,F40⟩:=bS F39
   refine aW (λa_88 W15=>∃G2,ns=G2∧∃V7,V1.le V7∧Frm 202 ((107,bO G2)::kpL [0,3,6,8] f.fr) a_88∧Hp w0 V7 (N2.en) W15) ?_ ?_
   ·refine ay (Y f 1 λ_ f=>Y7 f N2 R2 0 rfl λ_ f=>Y f 2 λ_ f=>?_)
    rcases cE la with⟨B27,F41⟩|⟨B27,F46⟩
    ·have f:=f.st 95 (cB B27)
     refine Y f 1 λ_ f=>Y7 f N2 R2 4 rfl λ_ f=>Y f 4 λ_ f=>?_
     rcases cE F41 with⟨B28,F42⟩|⟨B28,F45⟩
     ·have f:=f.st 101 (cB B28)
      refine Y f 1 λ_ f=>Y7 f N2 R2 4 rfl λ_ f=>?_
      obtain⟨X11,l11,F43⟩:=bS F42
      obtain⟨C6,c_6,e_6,D7,R8⟩:=N2.at_ B1 l11
      obtain⟨Z16,P16,Z17,P17,rfl,B29,B30⟩:=TE0.opn D7
      refine Z f (XI e_6 l11) λ_ f=>Z f (XK N2 R8 0) λ_ f=>?_
      obtain⟨X12,l12,F44⟩:=bS F43
      refine Y9 f N2 (gf n _ _ X11 D7.mo X12 l12) λW14 N18 _ f=>Ye f 1 λ_ f=>?_
      exact⟨_,(sI F44).symm,_,mL,f.kp,N18.kr⟩
     have f:=f.st 101 (cB B28)
     refine Ye f 6 λ_ f=>?_
     exact⟨_,(sI F45).symm,_,mL,f.kp,N2.kr⟩
    have f:=f.st 95 (cB B27)
    refine Ye f 12 λ_ f=>?_
    exact⟨_,(sI F46).symm,_,mL,f.kp,N2.kr⟩
   rintro a_88 W15 ⟨G2,hZ,V7,J7,f,N19⟩
   dsimp only[Hp.en] at N19
   subst ns
   refine az (RcF f F40 (λB31 F47=>?_) λB31 F58=>?_)
   ·refine ah ?_
    obtain⟨qh,mK,F48⟩:=bS F47
    refine aW (λa_110 W32=>∃G3,qh=G3∧∃V11,V7.le V11∧∃C9 c_12,Rep V11 (aA G3.1) c_12∧(∀j u,c_12[j]? =some u→V11.cell? (C9.add j)=some u)∧Frm 202 ((12,Pa C9)::kpL [0,3,6,8] f.fr) a_110∧Hp w0 V11 (setE (setE (selE [1,0] 2 N19.en) 0 0 [iL G3.2.1]) 0 1 [S G3.2.2]) W32) ?_ ?_
    ·have N24:=N19.pl [1]
     obtain⟨X13,l13,F49⟩:=bS mK
     obtain⟨X14,l14,F50⟩:=bS F49
     obtain⟨X15,l15,F51⟩:=bS F50
     refine dG [9] 1 N24 (.quiet 0 (.quiet 1 (.quiet 2 (.quiet 3 (.quiet 4 (.quiet 5 (.quiet 6 (.alt 7 (.alt 8 .done .none) (.alt 8 (.alt 7 .done .none) .none))))))))) (Y1 (v:=pP b0) rfl f rfl rfl (λ_ _=>by kernel_rfl) λ_ f=>Y1 (v:=Pa ((⟨Q1,0,none⟩:Addr).add 4)) rfl f rfl rfl (λ_ _=>by kernel_rfl) λ_ f=>Y1 rfl f rfl rfl (λ_ pq=>XK pq (fu R2) 4) λ_ f=>?_)
     obtain⟨C8,c_9,e_8,D10,R10⟩:=Sli.aM V7 B1 l13
     obtain⟨Z21,P21,Z22,P22,rfl,B35,B36⟩:=TE0.opn D10
     refine Y1 rfl f rfl rfl (λ_ pq=>XI e_8 l13) λ_ f=>Y1 rfl f rfl rfl (λ_ pq=>XK pq R10 0) λ_ f=>Y1 (v:=S d3) rfl f rfl rfl (λ_ _=>by kernel_rfl) λ_ f=>oD (v:=S X14) rfl f kr kr rfl rfl (λ_=>by kernel_rfl) (cH n _ d3 (1:Int) X14 l14) λ_ f=>ao rfl (λW20 N26=>?_) ?_
     ·refine Ch f N26 (hrec_ref13_reader_expr _ b0 aO aC _ X13 D10.mo X14 X15 l15) λ_ V9 E_4 W21 J9 N27 nt _ f=>?_
      obtain⟨c_10,rfl,rfl,D11⟩:=nt
      obtain⟨Z23,P23,rfl,B37⟩:=TG0.opn D11
      refine ag rfl (ap 1 J9 N27 (ao rfl (λW22 N28=>?_) ?_))
      ·refine Y4 f N28 (.cells #[iB 0,S [],iL 0,S [],S [],Sn] 31 (0,0)) λQ4 W23 N29 _ f=>ag rfl (ap 2 J9 N29 (dp λW24 N30=>Wu f N30 0 0 (lTG0 X15.1 Z23 P23) λW25 N31 _ f=>ag rfl (jD ?_)))
       obtain⟨V12,J12,N40,R11⟩:=N31.fzOwn
       refine az ?_
       exact⟨_,(sI F51).symm,_,mL,⟨Q4,0,none⟩,_,D11.mo,(bF (R11) 0 rfl),f.kp,N40.kr⟩
      exact al
     refine ao rfl (λW26 N32=>?_) ?_
     ·refine Y4 f N32 (.cells #[iB 0,S [],iL 0,S [],S [],Sn] 31 (0,0)) λQ5 W27 N33 _ f=>ag rfl (ap 2 mL N33 (ao rfl (λW28 N34=>?_) ?_))
      ·have N36:=N34.pl [1]
       refine Ch f N36 (hrec_ref13_reader_expr _ b0 aO aC _ X13 D10.mo X14 X15 l15) λ_ V10 E_5 W29 J10 N35 pg _ f=>?_
       obtain⟨c_11,rfl,rfl,D12⟩:=pg
       obtain⟨Z24,P24,rfl,B38⟩:=TG0.opn D12
       refine ag rfl (ap 2 J10 N35 (dp λW30 N37=>Wu f N37 1 0 (lTG0 X15.1 Z24 P24) λW31 N38 _ f=>ag rfl (jD ?_)))
       have N41:=N38.pl [1]
       obtain⟨V13,J13,N42,R12⟩:=N41.fzOwn
       refine az ?_
       exact⟨_,(sI F51).symm,_,mL,⟨Q5,0,none⟩,_,D12.mo,(bF (R12) 0 rfl),f.kp,N42.kr⟩
      exact al
     exact al
    rintro a_110 W32 ⟨G3,rY,V11,J11,C9,c_12,D13,qt,f,N39⟩
    dsimp only[Hp.en] at N39
    subst qh
    obtain⟨Z25,P25,rfl,B39⟩:=TG0.opn D13
    refine az (ah ?_)
    obtain⟨j_5,hj_5,F52⟩:=bS F48
    refine aW (λa_132 W49=>∃G4,j_5=G4∧∃V17,V11.le V17∧∃C12 c_18,Rep V17 (aA G4.1) c_18∧(∀j u,c_18[j]? =some u→V17.cell? (C12.add j)=some u)∧Frm 202 ((13,Pa C12)::kpL [6,8,12] f.fr) a_132∧Hp w0 V17 (setE (setE (N39.en) 0 0 [iL G4.2.1]) 0 1 [S G4.2.2]) W49) ?_ ?_
    ·obtain⟨X20,l16,F53⟩:=bS hj_5
     obtain⟨X21,l17,F54⟩:=bS F53
     obtain⟨X22,l18,F55⟩:=bS F54
     refine dG [9] 1 N39 (.quiet 0 (.quiet 1 (.quiet 2 (.quiet 3 (.quiet 4 (.quiet 5 (.quiet 6 (.alt 7 (.alt 8 .done .none) (.alt 8 (.alt 7 .done .none) .none))))))))) (Y1 (v:=pP b0) rfl f rfl rfl (λ_ _=>by kernel_rfl) λ_ f=>Y1 (v:=Pa ((⟨Q1,0,none⟩:Addr).add 4)) rfl f rfl rfl (λ_ _=>by kernel_rfl) λ_ f=>Y1 rfl f rfl rfl (λ_ pq=>XK pq (fu R2) 4) λ_ f=>?_)
     obtain⟨C11,c_15,e_10,D16,R14⟩:=Sli.aM V11 B1 l16
     obtain⟨Z29,P29,Z30,P30,rfl,B43,B44⟩:=TE0.opn D16
     refine Y1 rfl f rfl rfl (λ_ pq=>XI e_10 l16) λ_ f=>Y1 rfl f rfl rfl (λ_ pq=>XK pq R14 0) λ_ f=>Y1 (v:=S d3) rfl f rfl rfl (λ_ _=>by kernel_rfl) λ_ f=>oD (v:=S X21) rfl f kr kr rfl rfl (λ_=>by kernel_rfl) (cH n _ d3 (2:Int) X21 l17) λ_ f=>ao rfl (λW37 N47=>?_) ?_
     ·refine Ch f N47 (hrec_ref13_reader_expr _ b0 G3.2.1 G3.2.2 _ X20 D16.mo X21 X22 l18) λ_ V15 E_7 W38 J15 N48 q_7 _ f=>?_
      obtain⟨c_16,rfl,rfl,D17⟩:=q_7
      obtain⟨Z31,P31,rfl,B45⟩:=TG0.opn D17
      refine ag rfl (ap 1 J15 N48 (ao rfl (λW39 N49=>?_) ?_))
      ·refine Y4 f N49 (.cells #[iB 0,S [],iL 0,S [],S [],Sn] 31 (0,0)) λQ7 W40 N50 _ f=>ag rfl (ap 2 J15 N50 (dp λW41 N51=>Wu f N51 0 0 (lTG0 X22.1 Z31 P31) λW42 N52 _ f=>ag rfl (jD ?_)))
       obtain⟨V18,J18,N61,R15⟩:=N52.fzOwn
       refine az ?_
       exact⟨_,(sI F55).symm,_,mL,⟨Q7,0,none⟩,_,D17.mo,(bF (R15) 0 rfl),f.kp,N61.kr⟩
      exact al
     refine ao rfl (λW43 N53=>?_) ?_
     ·refine Y4 f N53 (.cells #[iB 0,S [],iL 0,S [],S [],Sn] 31 (0,0)) λQ8 W44 N54 _ f=>ag rfl (ap 2 mL N54 (ao rfl (λW45 N55=>?_) ?_))
      ·have N57:=N55.pl [1]
       refine Ch f N57 (hrec_ref13_reader_expr _ b0 G3.2.1 G3.2.2 _ X20 D16.mo X21 X22 l18) λ_ V16 E_8 W46 J16 N56 q_8 _ f=>?_
       obtain⟨c_17,rfl,rfl,D18⟩:=q_8
       obtain⟨Z32,P32,rfl,B46⟩:=TG0.opn D18
       refine ag rfl (ap 2 J16 N56 (dp λW47 N58=>Wu f N58 1 0 (lTG0 X22.1 Z32 P32) λW48 N59 _ f=>ag rfl (jD ?_)))
       have N62:=N59.pl [1]
       obtain⟨V19,J19,N63,R16⟩:=N62.fzOwn
       refine az ?_
       exact⟨_,(sI F55).symm,_,mL,⟨Q8,0,none⟩,_,D18.mo,(bF (R16) 0 rfl),f.kp,N63.kr⟩
      exact al
     exact al
    rintro a_132 W49 ⟨G4,hq_6,V17,J17,C12,c_18,D19,hq_5,f,N60⟩
    dsimp only[Hp.en] at N60
    subst j_5
    obtain⟨Z33,P33,rfl,B47⟩:=TG0.opn D19
    refine az (ah ?_)
    have N64:=N60.pl [1]
    refine cu 1 [(0,true),(1,true),(2,true),(3,true),(4,true),(5,true),(6,true),(7,false),(8,true),(9,false)] N64 (Y0 default f 1 λ_ f=>bG f kr kr rfl rfl (λ_ pq=>XK pq (fu R2) 4) λ_ f=>?_)
    obtain⟨X27,l19,F56⟩:=bS F52
    obtain⟨C13,c_19,e_11,D20,R17⟩:=Sli.aM V17 B1 l19
    obtain⟨Z34,P34,Z35,P35,rfl,B48,B49⟩:=TE0.opn D20
    refine bG f kr kr rfl rfl (λ_ pq=>XI e_11 l19) λ_ f=>Y0 default f 1 λ_ f=>bG f kr kr rfl rfl (λ_ pq=>XK pq R17 3) λ_ f=>bG f kr kr rfl rfl (λ_ pq=>XK pq (fu qt) 0) λ_ f=>bG f kr kr rfl rfl (λ_ pq=>XK pq hq_5 0) λ_ f=>bI λW50 N65=>aE (k:=2) (c:=2) f N65 (.cells #[iB G3.1.ab,S G3.1.aa,iL G3.1.ak,S G3.1.av,S G3.1.aF,sL Z25 G3.1.fL P25,iB G4.1.ab,S G4.1.aa,iL G4.1.ak,S G4.1.av,S G4.1.aF,sL Z33 G4.1.fL P33] 31 (0,0)) kr (λ_=>by kernel_rfl) λQ9 W51 N66 _ f=>ag rfl (bL 2 mL N66 (Y0 default f 1 λ_ f=>bI λW52 N67=>?_))
    obtain⟨Z36,P36,V20,H3,J20,N68,B50⟩:=N67.litS (f:=aA) (xs:=[G3.1,G4.1]) (cl:=[iB G3.1.ab,S G3.1.aa,iL G3.1.ak,S G3.1.av,S G3.1.aF,sL Z25 G3.1.fL P25,iB G4.1.ab,S G4.1.aa,iL G4.1.ak,S G4.1.av,S G4.1.aF,sL Z33 G4.1.fL P33]) 2 bT ⟨_,_,rfl,TG0.shutx B39.mo,⟨_,_,rfl,TG0.shutx B47,rfl⟩⟩
    have f:=Frm.set f 132 (v:=.agg #[.int .i8 6,S [],.int .i64 0,S X27.aa,S [],.slice (some ⟨Q9,0,none⟩) 2 2]) (v':=.agg #[.int .i8 6,S [],.int .i64 0,S X27.aa,S [],.slice Z36 [G3.1,G4.1].length P36]) (by kernel_rfl) (by rw[H3])
    refine Wu f N68 0 0 [iB 6,S [],iL 0,S X27.aa,S [],sL Z36 [G3.1,G4.1] P36] λW53 N69 _ f=>ag rfl (bL 1 J20 N69 (dx rfl λW54 N70=>az (wp_ret (eu ?_))))
    have F57:=bw F56 F1
    refine bl (bl (bM f rfl (Rv.oN [iB 6,S [],iL 0,S X27.aa,S [],sL Z36 [G3.1,G4.1] P36] f N70 0 0) ?_))
    cases sI F57
    exact⟨_,rfl,_,_,mL,(N70.dropN 1).kr,⟨_,rfl,rfl,(TG0.shutx B50)⟩⟩
   refine wp_skip (ec (az ?_))
   exact⟨_,(sI F58).symm,_,J7,f.kp,N19.kr⟩
  refine RR (Z f (Y11 rfl (l:=d1) (m:=[74,111,105,110])) λ_ f=>Ye f 1 λ_ f=>RcF f F59 (λB51 F60=>?_) λB51 F76=>?_)
  ·refine ah ?_
   obtain⟨j_6,hj_6,F61⟩:=bS F60
   refine aW (λa_159 W56=>∃G5,j_6=G5∧∃V21,V1.le V21∧Frm 202 ((150,bO G5)::kpL [0,3,6,8] f.fr) a_159∧Hp w0 V21 (N2.en) W56) ?_ ?_
   ·refine ay (Y f 1 λ_ f=>Y7 f N2 R2 0 rfl λ_ f=>Y f 2 λ_ f=>?_)
    rcases cE hj_6 with⟨B52,F62⟩|⟨B52,F67⟩
    ·have f:=f.st 138 (cB B52)
     refine Y f 1 λ_ f=>Y7 f N2 R2 4 rfl λ_ f=>Y f 4 λ_ f=>?_
     rcases cE F62 with⟨B53,F63⟩|⟨B53,F66⟩
     ·have f:=f.st 144 (cB B53)
      refine Y f 1 λ_ f=>Y7 f N2 R2 4 rfl λ_ f=>?_
      obtain⟨X28,l20,F64⟩:=bS F63
      obtain⟨C14,c_20,e_12,D21,R18⟩:=N2.at_ B1 l20
      obtain⟨Z37,P37,Z38,P38,rfl,B54,B55⟩:=TE0.opn D21
      refine Z f (XI e_12 l20) λ_ f=>Z f (XK N2 R18 0) λ_ f=>?_
      obtain⟨X29,l21,F65⟩:=bS F64
      refine Y9 f N2 (mp n _ _ X28 D21.mo X29 l21) λW55 N71 _ f=>Ye f 1 λ_ f=>?_
      exact⟨_,(sI F65).symm,_,mL,f.kp,N71.kr⟩
     have f:=f.st 144 (cB B53)
     refine Ye f 6 λ_ f=>?_
     exact⟨_,(sI F66).symm,_,mL,f.kp,N2.kr⟩
    have f:=f.st 138 (cB B52)
    refine Ye f 12 λ_ f=>?_
    exact⟨_,(sI F67).symm,_,mL,f.kp,N2.kr⟩
   rintro a_159 W56 ⟨G5,hq_7,V21,J21,f,N72⟩
   dsimp only[Hp.en] at N72
   subst j_6
   refine az (RcF f F61 (λB56 F68=>?_) λB56 F75=>?_)
   ·refine ah ?_
    obtain⟨j_7,hj_7,F69⟩:=bS F68
    refine aW (λa_181 W73=>∃G6,j_7=G6∧∃V25,V21.le V25∧∃C17 c_26,Rep V25 (aA G6.1) c_26∧(∀j u,c_26[j]? =some u→V25.cell? (C17.add j)=some u)∧Frm 202 ((14,Pa C17)::kpL [6,8] f.fr) a_181∧Hp w0 V25 (setE (setE (selE [1,0] 2 N72.en) 0 0 [iL G6.2.1]) 0 1 [S G6.2.2]) W73) ?_ ?_
    ·have N77:=N72.pl [1]
     obtain⟨X30,l22,F70⟩:=bS hj_7
     obtain⟨X31,l23,F71⟩:=bS F70
     obtain⟨X32,l24,F72⟩:=bS F71
     refine dG [9] 1 N77 (.quiet 0 (.quiet 1 (.quiet 2 (.quiet 3 (.quiet 4 (.quiet 5 (.quiet 6 (.alt 7 (.alt 8 .done .none) (.alt 8 (.alt 7 .done .none) .none))))))))) (Y1 (v:=pP b0) rfl f rfl rfl (λ_ _=>by kernel_rfl) λ_ f=>Y1 (v:=Pa ((⟨Q1,0,none⟩:Addr).add 4)) rfl f rfl rfl (λ_ _=>by kernel_rfl) λ_ f=>Y1 rfl f rfl rfl (λ_ pq=>XK pq (fu R2) 4) λ_ f=>?_)
     obtain⟨C16,c_23,e_14,D24,R20⟩:=Sli.aM V21 B1 l22
     obtain⟨Z42,P42,Z43,P43,rfl,B60,B61⟩:=TE0.opn D24
     refine Y1 rfl f rfl rfl (λ_ pq=>XI e_14 l22) λ_ f=>Y1 rfl f rfl rfl (λ_ pq=>XK pq R20 0) λ_ f=>Y1 (v:=S d3) rfl f rfl rfl (λ_ _=>by kernel_rfl) λ_ f=>oD (v:=S X31) rfl f kr kr rfl rfl (λ_=>by kernel_rfl) (cH n _ d3 (1:Int) X31 l23) λ_ f=>ao rfl (λW61 N79=>?_) ?_
     ·refine Ch f N79 (hrec_ref13_reader_expr _ b0 aO aC _ X30 D24.mo X31 X32 l24) λ_ V23 E_10 W62 J23 N80 q_10 _ f=>?_
      obtain⟨c_24,rfl,rfl,D25⟩:=q_10
      obtain⟨Z44,P44,rfl,B62⟩:=TG0.opn D25
      refine ag rfl (ap 1 J23 N80 (ao rfl (λW63 N81=>?_) ?_))
      ·refine Y4 f N81 (.cells #[iB 0,S [],iL 0,S [],S [],Sn] 31 (0,0)) λQ11 W64 N82 _ f=>ag rfl (ap 2 J23 N82 (dp λW65 N83=>Wu f N83 0 0 (lTG0 X32.1 Z44 P44) λW66 N84 _ f=>ag rfl (jD ?_)))
       obtain⟨V26,J26,N93,R21⟩:=N84.fzOwn
       refine az ?_
       exact⟨_,(sI F72).symm,_,mL,⟨Q11,0,none⟩,_,D25.mo,(bF (R21) 0 rfl),f.kp,N93.kr⟩
      exact al
     refine ao rfl (λW67 N85=>?_) ?_
     ·refine Y4 f N85 (.cells #[iB 0,S [],iL 0,S [],S [],Sn] 31 (0,0)) λQ12 W68 N86 _ f=>ag rfl (ap 2 mL N86 (ao rfl (λW69 N87=>?_) ?_))
      ·have N89:=N87.pl [1]
       refine Ch f N89 (hrec_ref13_reader_expr _ b0 aO aC _ X30 D24.mo X31 X32 l24) λ_ V24 E_11 W70 J24 N88 q_11 _ f=>?_
       obtain⟨c_25,rfl,rfl,D26⟩:=q_11
       obtain⟨Z45,P45,rfl,B63⟩:=TG0.opn D26
       refine ag rfl (ap 2 J24 N88 (dp λW71 N90=>Wu f N90 1 0 (lTG0 X32.1 Z45 P45) λW72 N91 _ f=>ag rfl (jD ?_)))
       have N94:=N91.pl [1]
       obtain⟨V27,J27,N95,R22⟩:=N94.fzOwn
       refine az ?_
       exact⟨_,(sI F72).symm,_,mL,⟨Q12,0,none⟩,_,D26.mo,(bF (R22) 0 rfl),f.kp,N95.kr⟩
      exact al
     exact al
    rintro a_181 W73 ⟨G6,hq_9,V25,J25,C17,c_26,D27,hq_8,f,N92⟩
    dsimp only[Hp.en] at N92
    subst j_7
    obtain⟨Z46,P46,rfl,B64⟩:=TG0.opn D27
    refine az (ah ?_)
    have N96:=N92.pl [1]
    refine cu 1 [(0,true),(1,true),(2,true),(3,true),(4,true),(5,true),(6,false),(7,true),(8,false)] N96 (Y0 default f 1 λ_ f=>bG f kr kr rfl rfl (λ_ pq=>XK pq (fu R2) 4) λ_ f=>?_)
    obtain⟨X37,l25,F73⟩:=bS F69
    obtain⟨C18,c_27,e_15,D28,R23⟩:=Sli.aM V25 B1 l25
    obtain⟨Z47,P47,Z48,P48,rfl,B65,B66⟩:=TE0.opn D28
    refine bG f kr kr rfl rfl (λ_ pq=>XI e_15 l25) λ_ f=>Y0 default f 1 λ_ f=>bG f kr kr rfl rfl (λ_ pq=>XK pq R23 3) λ_ f=>bG f kr kr rfl rfl (λ_ pq=>XK pq hq_8 0) λ_ f=>bI λW74 N97=>aE (k:=1) (c:=1) f N97 (.cells (aTG0 G6.1 Z46 P46) 31 (0,0)) kr (λ_=>by kernel_rfl) λQ13 W75 N98 _ f=>ag rfl (bL 2 mL N98 (Y0 default f 1 λ_ f=>bI λW76 N99=>?_))
    obtain⟨Z49,P49,V28,H4,J28,N100,B67⟩:=N99.litS (f:=aA) (xs:=[G6.1]) (cl:=(lTG0 G6.1 Z46 P46)) 1 bT ⟨_,_,rfl,TG0.shutx B64,rfl⟩
    have f:=Frm.set f 166 (v:=.agg #[.int .i8 7,S X37.aa,.int .i64 0,S [],S [],.slice (some ⟨Q13,0,none⟩) 1 1]) (v':=.agg #[.int .i8 7,S X37.aa,.int .i64 0,S [],S [],.slice Z49 [G6.1].length P49]) (by kernel_rfl) (by rw[H4])
    refine Wu f N100 0 0 [iB 7,S X37.aa,iL 0,S [],S [],sL Z49 [G6.1] P49] λW77 N101 _ f=>ag rfl (bL 1 J28 N101 (dx rfl λW78 N102=>az (wp_ret (eu ?_))))
    have F74:=bw F73 F1
    refine bl (bl (bM f rfl (Rv.oN [iB 7,S X37.aa,iL 0,S [],S [],sL Z49 [G6.1] P49] f N102 0 0) ?_))
    cases sI F74
    exact⟨_,rfl,_,_,mL,(N102.dropN 1).kr,⟨_,rfl,rfl,(TG0.shutx B67)⟩⟩
   refine wp_skip (ec (az ?_))
   exact⟨_,(sI F75).symm,_,J21,f.kp,N72.kr⟩
  refine RR (Z f (Y11 rfl (l:=d1) (m:=[83,101,108,101,99,116])) λ_ f=>Ye f 1 λ_ f=>RcF f F76 (λB68 F77=>?_) λB68 F92=>?_)
  ·refine ah ?_
   obtain⟨j_8,hj_8,F78⟩:=bS F77
   refine aW (λa_200 W79=>∃G7,j_8=G7∧∃V29,V1.le V29∧Frm 202 ((177,bO G7)::kpL [0,3,6,8] f.fr) a_200∧Hp w0 V29 (N2.en) W79) ?_ ?_
   ·refine ay (Y f 1 λ_ f=>Y7 f N2 R2 0 rfl λ_ f=>Y f 2 λ_ f=>?_)
    rcases cE hj_8 with⟨B69,F79⟩|⟨B69,F80⟩
    ·have f:=f.st 172 (cB B69)
     refine Y f 1 λ_ f=>Y7 f N2 R2 4 rfl λ_ f=>Ye f 3 λ_ f=>?_
     exact⟨_,(sI F79).symm,_,mL,f.kp,N2.kr⟩
    have f:=f.st 172 (cB B69)
    refine Ye f 5 λ_ f=>?_
    exact⟨_,(sI F80).symm,_,mL,f.kp,N2.kr⟩
   rintro a_200 W79 ⟨G7,hq_10,V29,J29,f,N103⟩
   dsimp only[Hp.en] at N103
   subst j_8
   refine az (RcF f F78 (λB70 F81=>?_) λB70 F91=>?_)
   ·refine ah ?_
    obtain⟨j_9,hj_9,F82⟩:=bS F81
    refine aW (λa_222 W96=>∃G8,j_9=G8∧∃V33,V29.le V33∧∃C21 c_33,Rep V33 (aA G8.1) c_33∧(∀j u,c_33[j]? =some u→V33.cell? (C21.add j)=some u)∧Frm 202 ((15,Pa C21)::kpL [0,3,6,8] f.fr) a_222∧Hp w0 V33 (setE (setE (selE [1,0] 2 N103.en) 0 0 [iL G8.2.1]) 0 1 [S G8.2.2]) W96) ?_ ?_
    ·have N108:=N103.pl [1]
     obtain⟨X38,l26,F83⟩:=bS hj_9
     obtain⟨X39,l27,F84⟩:=bS F83
     obtain⟨X40,l28,F85⟩:=bS F84
     refine dG [9] 1 N108 (.quiet 0 (.quiet 1 (.quiet 2 (.quiet 3 (.quiet 4 (.quiet 5 (.quiet 6 (.alt 7 (.alt 8 .done .none) (.alt 8 (.alt 7 .done .none) .none))))))))) (Y1 (v:=pP b0) rfl f rfl rfl (λ_ _=>by kernel_rfl) λ_ f=>Y1 (v:=Pa ((⟨Q1,0,none⟩:Addr).add 4)) rfl f rfl rfl (λ_ _=>by kernel_rfl) λ_ f=>Y1 rfl f rfl rfl (λ_ pq=>XK pq (fu R2) 4) λ_ f=>?_)
     obtain⟨C20,c_30,e_17,D31,R25⟩:=Sli.aM V29 B1 l26
     obtain⟨Z53,P53,Z54,P54,rfl,B74,B75⟩:=TE0.opn D31
     refine Y1 rfl f rfl rfl (λ_ pq=>XI e_17 l26) λ_ f=>Y1 rfl f rfl rfl (λ_ pq=>XK pq R25 0) λ_ f=>Y1 (v:=S d3) rfl f rfl rfl (λ_ _=>by kernel_rfl) λ_ f=>oD (v:=S X39) rfl f kr kr rfl rfl (λ_=>by kernel_rfl) (cH n _ d3 (0:Int) X39 l27) λ_ f=>ao rfl (λW84 N110=>?_) ?_
     ·refine Ch f N110 (hrec_ref13_reader_expr _ b0 aO aC _ X38 D31.mo X39 X40 l28) λ_ V31 E_13 W85 J31 N111 q_13 _ f=>?_
      obtain⟨c_31,rfl,rfl,D32⟩:=q_13
      obtain⟨Z55,P55,rfl,B76⟩:=TG0.opn D32
      refine ag rfl (ap 1 J31 N111 (ao rfl (λW86 N112=>?_) ?_))
      ·refine Y4 f N112 (.cells #[iB 0,S [],iL 0,S [],S [],Sn] 31 (0,0)) λQ15 W87 N113 _ f=>ag rfl (ap 2 J31 N113 (dp λW88 N114=>Wu f N114 0 0 (lTG0 X40.1 Z55 P55) λW89 N115 _ f=>ag rfl (jD ?_)))
       obtain⟨V34,J34,N124,R26⟩:=N115.fzOwn
       refine az ?_
       exact⟨_,(sI F85).symm,_,mL,⟨Q15,0,none⟩,_,D32.mo,(bF (R26) 0 rfl),f.kp,N124.kr⟩
      exact al
     refine ao rfl (λW90 N116=>?_) ?_
     ·refine Y4 f N116 (.cells #[iB 0,S [],iL 0,S [],S [],Sn] 31 (0,0)) λQ16 W91 N117 _ f=>ag rfl (ap 2 mL N117 (ao rfl (λW92 N118=>?_) ?_))
      ·have N120:=N118.pl [1]
       refine Ch f N120 (hrec_ref13_reader_expr _ b0 aO aC _ X38 D31.mo X39 X40 l28) λ_ V32 E_14 W93 J32 N119 q_14 _ f=>?_
       obtain⟨c_32,rfl,rfl,D33⟩:=q_14
       obtain⟨Z56,P56,rfl,B77⟩:=TG0.opn D33
       refine ag rfl (ap 2 J32 N119 (dp λW94 N121=>Wu f N121 1 0 (lTG0 X40.1 Z56 P56) λW95 N122 _ f=>ag rfl (jD ?_)))
       have N125:=N122.pl [1]
       obtain⟨V35,J35,N126,R27⟩:=N125.fzOwn
       refine az ?_
       exact⟨_,(sI F85).symm,_,mL,⟨Q16,0,none⟩,_,D33.mo,(bF (R27) 0 rfl),f.kp,N126.kr⟩
      exact al
     exact al
    rintro a_222 W96 ⟨G8,hq_12,V33,J33,C21,c_33,D34,hq_11,f,N123⟩
    dsimp only[Hp.en] at N123
    subst j_9
    obtain⟨Z57,P57,rfl,B78⟩:=TG0.opn D34
    refine az (ah ?_)
    obtain⟨j_10,hj_10,F86⟩:=bS F82
    refine aW (λa_244 W113=>∃G9,j_10=G9∧∃V39,V33.le V39∧∃C24 c_39,Rep V39 (aA G9.1) c_39∧(∀j u,c_39[j]? =some u→V39.cell? (C24.add j)=some u)∧Frm 202 ((16,Pa C24)::kpL [8,15] f.fr) a_244∧Hp w0 V39 (setE (setE (N123.en) 0 0 [iL G9.2.1]) 0 1 [S G9.2.2]) W113) ?_ ?_
    ·obtain⟨X45,l29,F87⟩:=bS hj_10
     obtain⟨X46,l30,F88⟩:=bS F87
     obtain⟨X47,l31,F89⟩:=bS F88
     refine dG [9] 1 N123 (.quiet 0 (.quiet 1 (.quiet 2 (.quiet 3 (.quiet 4 (.quiet 5 (.quiet 6 (.alt 7 (.alt 8 .done .none) (.alt 8 (.alt 7 .done .none) .none))))))))) (Y1 (v:=pP b0) rfl f rfl rfl (λ_ _=>by kernel_rfl) λ_ f=>Y1 (v:=Pa ((⟨Q1,0,none⟩:Addr).add 4)) rfl f rfl rfl (λ_ _=>by kernel_rfl) λ_ f=>Y1 rfl f rfl rfl (λ_ pq=>XK pq (fu R2) 4) λ_ f=>?_)
     obtain⟨C23,c_36,e_19,D37,R29⟩:=Sli.aM V33 B1 l29
     obtain⟨Z61,P61,Z62,P62,rfl,B82,B83⟩:=TE0.opn D37
     refine Y1 rfl f rfl rfl (λ_ pq=>XI e_19 l29) λ_ f=>Y1 rfl f rfl rfl (λ_ pq=>XK pq R29 0) λ_ f=>Y1 (v:=S d3) rfl f rfl rfl (λ_ _=>by kernel_rfl) λ_ f=>oD (v:=S X46) rfl f kr kr rfl rfl (λ_=>by kernel_rfl) (cH n _ d3 (1:Int) X46 l30) λ_ f=>ao rfl (λW101 N131=>?_) ?_
     ·refine Ch f N131 (hrec_ref13_reader_expr _ b0 G8.2.1 G8.2.2 _ X45 D37.mo X46 X47 l31) λ_ V37 E_16 W102 J37 N132 q_16 _ f=>?_
      obtain⟨c_37,rfl,rfl,D38⟩:=q_16
      obtain⟨Z63,P63,rfl,B84⟩:=TG0.opn D38
      refine ag rfl (ap 1 J37 N132 (ao rfl (λW103 N133=>?_) ?_))
      ·refine Y4 f N133 (.cells #[iB 0,S [],iL 0,S [],S [],Sn] 31 (0,0)) λQ18 W104 N134 _ f=>ag rfl (ap 2 J37 N134 (dp λW105 N135=>Wu f N135 0 0 (lTG0 X47.1 Z63 P63) λW106 N136 _ f=>ag rfl (jD ?_)))
       obtain⟨V40,J40,N145,R30⟩:=N136.fzOwn
       refine az ?_
       exact⟨_,(sI F89).symm,_,mL,⟨Q18,0,none⟩,_,D38.mo,(bF (R30) 0 rfl),f.kp,N145.kr⟩
      exact al
     refine ao rfl (λW107 N137=>?_) ?_
     ·refine Y4 f N137 (.cells #[iB 0,S [],iL 0,S [],S [],Sn] 31 (0,0)) λQ19 W108 N138 _ f=>ag rfl (ap 2 mL N138 (ao rfl (λW109 N139=>?_) ?_))
      ·have N141:=N139.pl [1]
       refine Ch f N141 (hrec_ref13_reader_expr _ b0 G8.2.1 G8.2.2 _ X45 D37.mo X46 X47 l31) λ_ V38 E_17 W110 J38 N140 q_17 _ f=>?_
       obtain⟨c_38,rfl,rfl,D39⟩:=q_17
       obtain⟨Z64,P64,rfl,B85⟩:=TG0.opn D39
       refine ag rfl (ap 2 J38 N140 (dp λW111 N142=>Wu f N142 1 0 (lTG0 X47.1 Z64 P64) λW112 N143 _ f=>ag rfl (jD ?_)))
       have N146:=N143.pl [1]
       obtain⟨V41,J41,N147,R31⟩:=N146.fzOwn
       refine az ?_
       exact⟨_,(sI F89).symm,_,mL,⟨Q19,0,none⟩,_,D39.mo,(bF (R31) 0 rfl),f.kp,N147.kr⟩
      exact al
     exact al
    rintro a_244 W113 ⟨G9,hq_14,V39,J39,C24,c_39,D40,hq_13,f,N144⟩
    dsimp only[Hp.en] at N144
    subst j_10
    obtain⟨Z65,P65,rfl,B86⟩:=TG0.opn D40
    refine az (RR (Z f (XK N144 hq_11 0) λ_ f=>Z f (XK N144 hq_13 0) λ_ f=>aE (k:=2) (c:=2) f N144 (.cells #[iB G8.1.ab,S G8.1.aa,iL G8.1.ak,S G8.1.av,S G8.1.aF,sL Z57 G8.1.fL P57,iB G9.1.ab,S G9.1.aa,iL G9.1.ak,S G9.1.av,S G9.1.aF,sL Z65 G9.1.fL P65] 31 (0,0)) kr (λ_=>by kernel_rfl) λQ20 W114 N148 _ f=>Y f 1 λ_ f=>?_))
    obtain⟨Z66,P66,V42,H5,J42,N149,B87⟩:=N148.litS (f:=aA) (xs:=[G8.1,G9.1]) (cl:=[iB G8.1.ab,S G8.1.aa,iL G8.1.ak,S G8.1.av,S G8.1.aF,sL Z57 G8.1.fL P57,iB G9.1.ab,S G9.1.aa,iL G9.1.ak,S G9.1.av,S G9.1.aF,sL Z65 G9.1.fL P65]) 2 bT ⟨_,_,rfl,TG0.shutx B78.mo,⟨_,_,rfl,TG0.shutx B86,rfl⟩⟩
    have f:=Frm.set f 197 (v:=.agg #[.int .i8 8,S [],.int .i64 0,S [],S [],.slice (some ⟨Q20,0,none⟩) 2 2]) (v':=.agg #[.int .i8 8,S [],.int .i64 0,S [],S [],.slice Z66 [G8.1,G9.1].length P66]) (by kernel_rfl) (by rw[H5])
    refine Wu f N149 1 0 [iB 8,S [],iL 0,S [],S [],sL Z66 [G8.1,G9.1] P66] λW115 N150 _ f=>Er (eu ?_)
    have F90:=bw F86 F1
    refine bl (bl (bM f rfl (Rv.oN [iB 8,S [],iL 0,S [],S [],sL Z66 [G8.1,G9.1] P66] f N150 1 0) ?_))
    cases sI F90
    have N151:=N150.pl [1]
    exact⟨_,rfl,_,_,mL,(N151.dropN 1).kr,⟨_,rfl,rfl,(TG0.shutx B87)⟩⟩
   refine wp_skip (ec (az ?_))
   exact⟨_,(sI F91).symm,_,J29,f.kp,N103.kr⟩
  refine wp_skip (ec (az ?_))
  exact⟨_,(sI F92).symm,_,mL,f.kp,N2.kr⟩
 rintro a_250 W116 ⟨G10,rfl,V43,J43,f,N152⟩
 dsimp only[Hp.en] at N152
 refine az (RR (Y f 2 λ_ f=>?_))
 obtain⟨X52,l32,F93⟩:=bS F1
 have N154:=N152.pl [1]
 refine Ch f N154 (ax n _ b0 aO aC (121:Int) d3 X52 l32) λ_ V44 E_18 W117 J44 N153 q_18 _ f=>?_
 obtain⟨rfl,rfl⟩:=q_18
 refine eT (RR (Y f 1 λ_ f=>Wu f N153 1 0 [iB 0,S [],iL 0,S [],S [],Sn] λW118 N155 _ f=>Er (bM f rfl (Rv.oN [iB 0,S [],iL 0,S [],S [],Sn] f N155 1 0) ?_)))
 cases sI F93
 have N156:=N155.pl [1]
 exact⟨_,rfl,_,_,mL,(N156.dropN 1).kr,⟨_,rfl,rfl,(TG0.shutx Sli.nil)⟩⟩
def cq (n:Nat) (rec_ref13_reader_expr:Int→Bs→TE0→Bs→Option (TG0×Int×Bs)) (d1:TE0) (d2:Bs) (K1:Int×Int×Bs×List TG0):Option (Lp (Int×Int×Bs×List TG0) (Int×Bs×List TG0)):=
    ((bif(decide (K1.1<((d1.ac.length:Nat):Int))) then
     (some ((decide (K1.2.1=0))))
      else
       some ((false)):Option Bool)).bind λG2=>
    bif G2 then
     ((((aB d1.ac K1.1).bind λX4=>
       (bx n d2 K1.1).bind λX5=>
       (rec_ref13_reader_expr K1.2.1 K1.2.2.1 X4 X5).bind λX6=>
       aL ((K1.2.2.2.length+1)*88≤140737488355328)<|
       some ((X6.2.1,X6.2.2,K1.2.2.2++[X6.1])):Option (Int×Bs×List TG0))).bind λG3=>
     aL (inR .i64 (K1.1+1))<|
     some (.nx (K1.1+1,G3.1,G3.2.1,G3.2.2)))
    else
     some (.br (K1.2.1,K1.2.2.1,K1.2.2.2))
def dh (n:Nat) (rec_ref13_reader_expr:Int→Bs→TE0→Bs→Option (TG0×Int×Bs)) (aO:Int) (aC:Bs) (d1:TE0) (d2:Bs):Option (TG0×Int×Bs):=
 bif(!(decide (aO=0))) then
  (some ((aQ,aO,aC)))
 else
  ((bif(decide (d1.ab=3)) then
   ((iZ n d1).bind λX1=>
   bif !X1 then
    ((aq n aO aC (121:Int) d2).bind λX2=>
    ((some (((⟨(0:Int),d1.aa,(0:Int),([]:Bs),([]:Bs),([]:List TG0)⟩:TG0),X2.1,X2.2)):Option (TG0×Int×Bs))).map Lp.br)
   else
    ((some (((⟨(0:Int),d1.aa,(0:Int),([]:Bs),([]:Bs),([]:List TG0)⟩:TG0),aO,aC)):Option (TG0×Int×Bs))).map Lp.br)
    else
     bif(decide (d1.ab=2)) then
      (((some (((⟨(1:Int),([]:Bs),d1.ak,([]:Bs),([]:Bs),([]:List TG0)⟩:TG0),aO,aC)):Option (TG0×Int×Bs))).map Lp.br)
     else
      bif(decide (d1.ab=4)) then
       (((bif(decide ((8:Int)<((d1.ac.length:Nat):Int))) then
        ((aq n aO aC (3:Int) d2).bind λX3=>
        some ((X3.1,X3.2)))
         else
          some ((aO,aC)):Option (Int×Bs))).bind λG1=>
       (au (cq n rec_ref13_reader_expr d1 d2) n ((0:Int),G1.1,G1.2,([]:List TG0))).bind λG4=>
       ((some (((⟨(2:Int),([]:Bs),(0:Int),([]:Bs),([]:Bs),G4.2.2⟩:TG0),G4.1,G4.2.1)):Option (TG0×Int×Bs))).map Lp.br)
      else
       bif(decide (d1.ab=5)) then
        (bif(decide (((d1.af.length:Nat):Int)=1)) then
         ((aB d1.af (0:Int)).bind λX10=>
         (aB d1.ac (0:Int)).bind λX11=>
         (aB d1.af (0:Int)).bind λX12=>
         (bt n d2 X12).bind λX13=>
         (eH n rec_ref13_reader_expr aO aC X10 X11 X13).bind λX14=>
         ((some ((X14.1,X14.2.1,X14.2.2)):Option (TG0×Int×Bs))).map Lp.br)
        else
         some (.nx ()))
       else
        some (.nx ()):Option (Lp Unit (TG0×Int×Bs)))).bind λj=>joinF j λG5=>
  (aq n aO aC (121:Int) d2).bind λX15=>
  some ((aQ,X15.1,X15.2))
set_option maxRecDepth 20000 in
theorem nb (n:Nat) (rec_ref13_reader_expr:Int→Bs→TE0→Bs→Option (TG0×Int×Bs)) (hrec_ref13_reader_expr: ∀ (M:Mem) (b0:Nat) (aO:Int) (aC:Bs) (c1:Lv) (d1:TE0) (h1:Rep M (ai d1) c1) (d2:Bs) (r:TG0×Int×Bs) (hF:rec_ref13_reader_expr aO aC d1 d2=some r),OkH Tryz.prog M [oC b0 #[iL aO,S aC] 54] 20 [pP b0,.agg c1.toArray,S d2] (λM' E' v=>∃ (c0:Lv),v=.agg c0.toArray∧E'=[oC b0 #[iL r.2.1,S r.2.2] 54]∧Rep M' (aA r.1) c0)) (M:Mem) (b0:Nat) (aO:Int) (aC:Bs) (c1:Lv) (d1:TE0) (h1:Rep M (ai d1) c1) (d2:Bs) (r:TG0×Int×Bs) (hF:dh n rec_ref13_reader_expr aO aC d1 d2=some r):OkH Tryz.prog M [oC b0 #[iL aO,S aC] 54] 20 [pP b0,.agg c1.toArray,S d2] (λM' E' v=>∃ (c0:Lv),v=.agg c0.toArray∧E'=[oC b0 #[iL r.2.1,S r.2.2] 54]∧Rep M' (aA r.1) c0):=by
 unfold dh at hF
 intro M1 hM0 w0 H w p0
 replace h1:=Rep.mono hM0 _ _ h1
 obtain⟨Z1,P1,Z2,P2,rfl,B1,B2⟩:=TE0.opn h1
 refine Re 99 Tryz.func20 rfl λa0 f0=>RR (Y5 (cs:=(aTE0 d1 Z1 P1 Z2 P2)) (T:=26) f0 p0 λQ1 V1 W1 J1 R1 N1 _ f=>?_)
 have R2:=aU R1
 refine Y4 f N1 (.cells #[iB 0,S [],iL 0,S [],S [],Sn] 31 (0,0)) λQ2 W2 N2 _ f=>eT (ah (RR (Y f 3 λ_ f=>Z f (XO N2 1) λ_ f=>Ye f 1 λ_ f=>RcF f hF (λB3 F1=>?_) λB3 F2=>?_)))
 ·refine RR (Y f 1 λ_ f=>Wu f N2 0 0 [iB 0,S [],iL 0,S [],S [],Sn] λW3 N3 _ f=>Er (bl (bM f rfl (Rv.oN [iB 0,S [],iL 0,S [],S [],Sn] f N3 0 0) ?_)))
  cases sI F1
  exact⟨_,rfl,_,_,J1,(N3.dropN 1).kr,⟨_,rfl,rfl,(TG0.shutx Sli.nil)⟩⟩
 refine St (ah (RR (Y f 1 λ_ f=>Y7 f N2 R2 0 rfl λ_ f=>eT ?_)))
 obtain⟨eF,cL,F3⟩:=bS F2
 refine aW (λa_104 W38=>∃G5,eF=.nx G5∧∃V13,V1.le V13∧Frm 99 (kpL [0,2,6] f.fr) a_104∧Hp w0 V13 (N2.en) W38) ?_ ?_
 ·refine wp_block (RR (Ye f 2 λ_ f=>RcF f cL (λB4 F4=>?_) λB4 F11=>?_))
  ·refine ah (RR (Z f (XK N2 R2 0) λ_ f=>?_))
   obtain⟨X1,l1,F5⟩:=bS F4
   refine Y9 f N2 (mp n _ _ d1 h1.mo X1 l1) λW4 N4 _ f=>Ye f 1 λ_ f=>RcF f F5 (λB5 F6=>?_) λB5 F9=>?_
   ·refine ay (Y f 2 λ_ f=>?_)
    obtain⟨X2,l2,F7⟩:=bS F6
    have N6:=N4.pl [1]
    refine Ch f N6 (ax n _ b0 aO aC (121:Int) d2 X2 l2) λ_ V2 mG W5 J2 N5 ef _ f=>?_
    obtain⟨rfl,rfl⟩:=ef
    refine eT (RR (Y f 1 λ_ f=>Y7 f N5 (fu R2) 3 rfl λ_ f=>Y f 1 λ_ f=>Wu f N5 1 0 [iB 0,S d1.aa,iL 0,S [],S [],Sn] λW6 N7 _ f=>Er (eu ?_)))
    have F8:=bw F7 F3
    refine bl (bl (bM f rfl (Rv.oN [iB 0,S d1.aa,iL 0,S [],S [],Sn] f N7 1 0) ?_))
    cases sI F8
    have N8:=N7.pl [1]
    exact⟨_,rfl,_,_,mL,(N8.dropN 1).kr,⟨_,rfl,rfl,(TG0.shutx Sli.nil)⟩⟩
   refine St (RR (Y f 1 λ_ f=>Y7 f N4 R2 3 rfl λ_ f=>Y f 1 λ_ f=>Wu f N4 0 0 [iB 0,S d1.aa,iL 0,S [],S [],Sn] λW7 N9 _ f=>Er (eu ?_)))
   have F10:=bw F9 F3
   refine bl (bl (bM f rfl (Rv.oN [iB 0,S d1.aa,iL 0,S [],S [],Sn] f N9 0 0) ?_))
   cases sI F10
   exact⟨_,rfl,_,_,J1,(N9.dropN 1).kr,⟨_,rfl,rfl,(TG0.shutx Sli.nil)⟩⟩
  refine RR (Ye f 2 λ_ f=>RcF f F11 (λB6 F12=>?_) λB6 F14=>?_)
  ·refine RR (Y f 1 λ_ f=>Y7 f N2 R2 2 rfl λ_ f=>Y f 1 λ_ f=>Wu f N2 0 0 [iB 1,S [],iL d1.ak,S [],S [],Sn] λW8 N10 _ f=>Er (eu ?_))
   have F13:=bw F12 F3
   refine bl (bl (bM f rfl (Rv.oN [iB 1,S [],iL d1.ak,S [],S [],Sn] f N10 0 0) ?_))
   cases sI F13
   exact⟨_,rfl,_,_,J1,(N10.dropN 1).kr,⟨_,rfl,rfl,(TG0.shutx Sli.nil)⟩⟩
  refine RR (Ye f 2 λ_ f=>RcF f F14 (λB7 F15=>?_) λB7 F33=>?_)
  ·refine RR (Y f 1 λ_ f=>Y4 f N2 (.cells #[iB 0,S [],iL 0,S [],S [],Sn] 31 (0,0)) λQ3 W9 N11 _ f=>Wu f N11 0 0 [iB 2,S [],iL 0,S [],S [],Sn] λW10 N12 _ f=>eT (ah (RR (Y f 1 λ_ f=>Y7 f N12 R2 4 rfl λ_ f=>Ye f 2 λ_ f=>?_))))
   obtain⟨lb,iJ,F16⟩:=bS F15
   refine aW (λa_38 W12=>∃G1,lb=G1∧∃V4,V1.le V4∧Frm 99 (kpL [0,2,4,6,7] f.fr) a_38∧Hp w0 V4 (setE (setE (selE [2,0,1] 3 N12.en) 0 0 [iL G1.1]) 0 1 [S G1.2]) W12) ?_ ?_
   ·refine RcF f iJ (λB8 F17=>?_) λB8 F19=>?_
    ·refine ay (Y f 2 λ_ f=>?_)
     obtain⟨X3,l3,F18⟩:=bS F17
     have N14:=N12.pl [2]
     refine Ch f N14 (ax n _ b0 aO aC (3:Int) d2 X3 l3) λ_ V3 rB W11 J3 N13 iK _ f=>?_
     obtain⟨rfl,rfl⟩:=iK
     refine eT ?_
     exact⟨_,(sI F18).symm,_,J3,f.kp,N13.kr⟩
    refine wp_skip ?_
    have N18:=N12.pl [1,1,2]
    refine az ?_
    exact⟨_,(sI F19).symm,_,mL,f.kp,N18.kr⟩
   rintro a_38 W12 ⟨G1,eS,V4,J4,f,N15⟩
   dsimp only[Hp.en] at N15
   subst lb
   refine az (ah (RR (Ye f 1 λ_ f=>wp_block ?_)))
   obtain⟨Z3,P3,H1,N19⟩:=N15.nilC 1 5 31 6 (TG0)
   have D1:ae V4 (([]:List TG0).map aA) []:=rfl
   obtain⟨Q4,ce,F20⟩:=bS F16
   refine wp_mono (Q:=λe a w=>(e=.exit 1∧(∃G4,Q4=G4∧∃V10,V4.le V10∧∃Z14 P14 L5,ae V10 (G4.2.2.map aA) L5∧Frm 99 (kpL [6,7] f.fr) a∧Hp w0 V10 ((rO 31 6 Z14 G4.2.2 P14 L5)::setE (setE (setE (N19.en.drop 1) 0 0 [iL G4.1]) 0 1 [S G4.2.1]) 1 5 [sL Z14 G4.2.2 P14]) w))) (aZ (σ:=(Int×Int×Bs×List TG0)×Oa×Nat×Lv) (λx=>match x with|(I1,K1,Z4,P4,L1)=>(((8,iL K1.1)::kpL [0,2,4,6,7] f.fr),((rO 31 6 Z4 K1.t3 P4 L1)::setE (setE (setE (N19.en.drop 1) 0 0 [iL K1.2.1]) 0 1 [S K1.2.2.1]) 1 5 [sL Z4 K1.t3 P4]),λMM=>au (cq n rec_ref13_reader_expr d1 d2) I1 K1=some Q4∧ae MM (K1.t3.map aA) L1)) (n,((0:Int),G1.1,G1.2,([]:List TG0)),Z3,P3,[]) (f.kp) N19.kr ⟨ce,D1⟩ ?_) ?_
   ·rintro⟨I1,K1,Z4,P4,L1⟩ V5 _ W13 J5 gL f N20
    obtain⟨ci,D2⟩:=gL
    dsimp only[Hp.en] at N20
    obtain⟨I2,lT,rfl,bg,T1⟩:=aK ci
    unfold cq at bg
    refine ah (ah ?_)
    obtain⟨ns,la,F21⟩:=bS bg
    refine aW (λa_48 W14=>∃G2,ns=G2∧∃V6,V5.le V6∧Frm 99 ((54,bO G2)::kpL [0,2,4,6,7,8] f.fr) a_48∧Hp w0 V6 (N20.en) W14) ?_ ?_
    ·refine ay (Y f 2 λ_ f=>Y7 f N20 (fu R2) 4 rfl λ_ f=>Y f 3 λ_ f=>?_)
     rcases cE la with⟨B9,F22⟩|⟨B9,F23⟩
     ·have f:=f.st 48 (cB B9)
      refine Y f 3 λ_ f=>Z f (XO N20 1) λ_ f=>Ye f 2 λ_ f=>?_
      exact⟨_,(sI F22).symm,_,mL,f.kp,N20.kr⟩
     have f:=f.st 48 (cB B9)
     refine Ye f 6 λ_ f=>?_
     exact⟨_,(sI F23).symm,_,mL,f.kp,N20.kr⟩
    rintro a_48 W14 ⟨G2,hZ,V6,J6,f,N21⟩
    dsimp only[Hp.en] at N21
    subst ns
    refine az (RcF f F21 (λB10 F24=>?_) λB10 F31=>?_)
    ·refine St (ah (wp_block ?_))
     obtain⟨qh,mK,F25⟩:=bS F24
     refine aW (λa_77 W28=>∃G3,qh=G3∧∃V9,V6.le V9∧∃Z13 P13 L4,ae V9 (G3.2.2.map aA) L4∧Frm 99 (kpL [0,2,4,6,7,8] f.fr) a_77∧Hp w0 V9 ((rO 31 6 Z13 G3.2.2 P13 L4)::setE (setE (setE (N21.en.drop 1) 0 0 [iL G3.1]) 0 1 [S G3.2.1]) 1 5 [sL Z13 G3.2.2 P13]) W28) ?_ ?_
     ·obtain⟨X4,l4,F26⟩:=bS mK
      obtain⟨X5,l5,F27⟩:=bS F26
      obtain⟨X6,l6,F28⟩:=bS F27
      obtain⟨O1,F29⟩:=nS F28
      refine dG [14,15] 2 N21 (.quiet 0 (.quiet 1 (.quiet 2 (.quiet 3 (.quiet 4 (.quiet 5 (.quiet 6 (.quiet 7 (.quiet 8 (.quiet 9 (.quiet 10 (.alt 11 (.alt 12 (.alt 13 .done .none) .none) .none)))))))))))) (Y1 (v:=Pa (⟨Q3,5,none⟩)) rfl f rfl rfl (λ_ _=>by kernel_rfl) λ_ f=>Y1 rfl f rfl rfl (λ_ pq=>XO pq 0) λ_ f=>Y1 (v:=pP b0) rfl f rfl rfl (λ_ _=>by kernel_rfl) λ_ f=>Y1 (v:=Pa ((⟨Q1,0,none⟩:Addr).add 4)) rfl f rfl rfl (λ_ _=>by kernel_rfl) λ_ f=>Y1 rfl f rfl rfl (λ_ pq=>XK pq (fu R2) 4) λ_ f=>Y1 (v:=iL K1.1) rfl f rfl rfl (λ_ _=>by kernel_rfl) λ_ f=>?_)
      obtain⟨C2,lQ,ly,D6,R4⟩:=Sli.aM V6 B1 l4
      obtain⟨Z9,P9,Z10,P10,rfl,B14,B15⟩:=TE0.opn D6
      refine Y1 rfl f rfl rfl (λ_ pq=>XI ly l4) λ_ f=>Y1 rfl f rfl rfl (λ_ pq=>XK pq R4 0) λ_ f=>Y1 (v:=S d2) rfl f rfl rfl (λ_ _=>by kernel_rfl) λ_ f=>Y1 (v:=iL K1.1) rfl f rfl rfl (λ_ _=>by kernel_rfl) λ_ f=>oD (v:=S X5) rfl f kr kr rfl rfl (λ_=>by kernel_rfl) (cH n _ d2 K1.1 X5 l5) λ_ f=>ao rfl (λW20 N28=>?_) ?_
      ·have N30:=N28.pl [1]
       refine Ch f N30 (hrec_ref13_reader_expr _ b0 K1.2.1 K1.2.2.1 _ X4 D6.mo X5 X6 l6) λ_ V8 E_4 W21 J8 N29 nt _ f=>?_
       obtain⟨rJ,rfl,rfl,D7⟩:=nt
       obtain⟨Z11,P11,rfl,B16⟩:=TG0.opn D7
       refine ag rfl (ap 2 J8 N29 (ao rfl (λW22 N31=>?_) ?_))
       ·refine aE (k:=1) (c:=1) f N31 (.cells (aTG0 X6.1 Z11 P11) 31 (0,0)) kr (λ_=>by kernel_rfl) λQ6 W23 N32 _ f=>ag rfl (ap 3 J8 N32 (ao rfl (λW24 N33=>?_) ?_))
        ·refine dM X6.1 0 f (N33.toRow 2 31 6 Z4 P4 D2.mo) D2.mo (TG0.shutx B16) O1 λZ12 P12 L3 W25 N34 D8 _ f=>ag rfl (ap 2 J8 N34 (dp λW26 N35=>Y f 1 λ_ f=>Wt f N35 2 5 (sL Z12 (K1.t3++[X6.1]) P12) λW27 N36 _ f=>ag rfl (jD (az ?_))))
         exact⟨_,(sI F29).symm,_,J8,Z12,P12,L3,D8,f.kp,N36.kr⟩
        exact al
       exact al
      exact al
     rintro a_77 W28 ⟨G3,qt,V9,J9,Z13,P13,L4,D9,f,N37⟩
     dsimp only[Hp.en] at N37
     subst qh
     refine ec (az (ay (Y f 1 λ_ f=>?_)))
     obtain⟨O2,F30⟩:=nS F25
     refine Y f 1 λ_ f=>?_
     have f:=f.st 56 (iW O2)
     refine Ye f 1 λ_ f=>?_
     cases sI F30
     exact⟨⟨_,_,Z13,P13,L4⟩,Nat.lt_succ_self _,_,mL,⟨T1,D9⟩,f.kp,N37.kr⟩
    refine wp_exit (dJ (dJ ?_))
    cases sI F31
    exact⟨rfl,_,(sI T1).symm,_,mL,Z4,P4,L1,D2.mo,f.kp,N21.kr⟩
   rintro _ _ W30 ⟨rfl,G4,hq_,V10,J10,Z14,P14,L5,D10,f,N38⟩
   subst Q4
   refine jV (az (RR (Z f (XO N38 2) λ_ f=>?_)))
   obtain⟨Z15,P15,V11,H2,J11,N39,B17⟩:=N38.rowSliK (f:=aA) (xs:=G4.2.2) 0 31 Z14 P14 bT D10
   have f:=Frm.set f 72 (v:=.agg #[.int .i8 2,S [],.int .i64 0,S [],S [],.slice Z14 G4.2.2.length P14]) (v':=.agg #[.int .i8 2,S [],.int .i64 0,S [],S [],.slice Z15 G4.2.2.length P15]) (by kernel_rfl) (by rw[H2])
   try simp only[sL] at H2 N39
   rw[H2] at N39
   refine Wu f N39 2 0 [iB 2,S [],iL 0,S [],S [],sL Z15 G4.2.2 P15] λW31 N41 _ f=>Er (eu ?_)
   have F32:=bw F20 F3
   refine bl (bl (bM f rfl (Rv.oN [iB 2,S [],iL 0,S [],S [],sL Z15 G4.2.2 P15] f N41 2 0) ?_))
   cases sI F32
   have N43:=N41.pl [2,2]
   exact⟨_,rfl,_,_,mL,(N43.dropN 2).kr,⟨_,rfl,rfl,(TG0.shutx B17)⟩⟩
  refine RR (Ye f 2 λ_ f=>RcF f F33 (λB18 F34=>?_) λB18 F43=>?_)
  ·refine RR (Y f 1 λ_ f=>Y7 f N2 R2 5 rfl λ_ f=>Ye f 2 λ_ f=>RcF f F34 (λB19 F35=>?_) λB19 F42=>?_)
   ·refine ah (cu 2 [(0,true),(1,true),(2,true),(3,true),(4,true),(5,true),(6,true),(7,true),(8,true),(9,true),(10,true),(11,true),(12,true),(13,true),(14,true),(15,false),(16,false)] N2 (Y0 default f 2 λ_ f=>bG f kr kr rfl rfl (λ_ pq=>XK pq R2 5) λ_ f=>?_))
    obtain⟨X10,l7,F36⟩:=bS F35
    obtain⟨C3,c_5,qm,D11,R5⟩:=Sli.aM V1 B2 l7
    obtain rfl:c_5=[S X10]:=D11
    refine bG f kr kr rfl rfl (λ_ pq=>XI qm l7) λ_ f=>bG f kr kr rfl rfl (λ_ pq=>XK pq R5 0) λ_ f=>Y0 default f 1 λ_ f=>bG f kr kr rfl rfl (λ_ pq=>XK pq R2 4) λ_ f=>?_
    obtain⟨X11,l8,F37⟩:=bS F36
    obtain⟨C4,c_6,qn,D12,R6⟩:=Sli.aM V1 B1 l8
    obtain⟨Z16,P16,Z17,P17,rfl,B20,B21⟩:=TE0.opn D12
    refine bG f kr kr rfl rfl (λ_ pq=>XI qn l8) λ_ f=>bG f kr kr rfl rfl (λ_ pq=>XK pq R6 0) λ_ f=>Y0 default f 2 λ_ f=>bG f kr kr rfl rfl (λ_ pq=>XK pq R2 5) λ_ f=>?_
    obtain⟨X12,l9,F38⟩:=bS F37
    obtain⟨C5,c_7,e_5,D13,R7⟩:=Sli.aM V1 B2 l9
    obtain rfl:c_7=[S X12]:=D13
    refine bG f kr kr rfl rfl (λ_ pq=>XI e_5 l9) λ_ f=>bG f kr kr rfl rfl (λ_ pq=>XK pq R7 0) λ_ f=>?_
    obtain⟨X13,l10,F39⟩:=bS F38
    refine eR (v:=S X13) f kr kr rfl rfl (λ_=>by kernel_rfl) (be n _ d2 X12 X13 l10) λ_ f=>bI λW33 N45=>?_
    obtain⟨X14,l11,F40⟩:=bS F39
    have N47:=N45.pl [1]
    refine Ch f N47 (nR n rec_ref13_reader_expr hrec_ref13_reader_expr _ b0 aO aC X10 _ X11 D12.mo X13 X14 l11) λ_ V12 E_5 W34 J12 N46 pg _ f=>?_
    obtain⟨c_8,rfl,rfl,D14⟩:=pg
    obtain⟨Z18,P18,rfl,B22⟩:=TG0.opn D14
    refine ag rfl (bL 2 J12 N46 (bI λW35 N48=>Wu f N48 1 0 (lTG0 X14.1 Z18 P18) λW36 N49 _ f=>ag rfl (bL 2 J12 N49 (dx rfl λW37 N50=>az (wp_ret (eu ?_))))))
    have F41:=bw F40 F3
    refine bl (bl (bM f rfl (Rv.oN (lTG0 X14.1 Z18 P18) f N50 1 0) ?_))
    cases sI F41
    have N51:=N50.pl [1]
    exact⟨_,rfl,_,_,mL,(N51.dropN 1).kr,⟨_,rfl,rfl,D14.mo⟩⟩
   refine wp_skip (ec (az ?_))
   exact⟨_,(sI F42).symm,_,mL,f.kp,N2.kr⟩
  refine wp_skip (ec (az ?_))
  exact⟨_,(sI F43).symm,_,mL,f.kp,N2.kr⟩
 rintro a_104 W38 ⟨G5,rfl,V13,J13,f,N52⟩
 dsimp only[Hp.en] at N52
 refine az (RR (Y f 2 λ_ f=>?_))
 obtain⟨X15,l12,F44⟩:=bS F3
 have N54:=N52.pl [1]
 refine Ch f N54 (ax n _ b0 aO aC (121:Int) d2 X15 l12) λ_ V14 E_6 W39 J14 N53 so _ f=>?_
 obtain⟨rfl,rfl⟩:=so
 refine eT (RR (Y f 1 λ_ f=>Wu f N53 1 0 [iB 0,S [],iL 0,S [],S [],Sn] λW40 N55 _ f=>Er (bM f rfl (Rv.oN [iB 0,S [],iL 0,S [],S [],Sn] f N55 1 0) ?_)))
 cases sI F44
 have N56:=N55.pl [1]
 exact⟨_,rfl,_,_,mL,(N56.dropN 1).kr,⟨_,rfl,rfl,(TG0.shutx Sli.nil)⟩⟩
def bj (n:Nat):Nat→Int→Bs→TE0→Bs→Option (TG0×Int×Bs)
 |0=>λ_ _ _ _=>none
 |k+1=>dh n (bj n k)
def cf (n:Nat) (aO:Int) (aC:Bs) (d1:TE0) (d2:Bs):Option (TG0×Int×Bs):=bj n n aO aC d1 d2
theorem dA (n:Nat) (M:Mem) (b0:Nat) (aO:Int) (aC:Bs) (c1:Lv) (d1:TE0) (h1:Rep M (ai d1) c1) (d2:Bs) (r:TG0×Int×Bs) (hF:cf n aO aC d1 d2=some r):OkH Tryz.prog M [oC b0 #[iL aO,S aC] 54] 20 [pP b0,.agg c1.toArray,S d2] (λM' E' v=>∃ (c0:Lv),v=.agg c0.toArray∧E'=[oC b0 #[iL r.2.1,S r.2.2] 54]∧Rep M' (aA r.1) c0):=by
 have key: ∀ (k:Nat) (M:Mem) (b0:Nat) (aO:Int) (aC:Bs) (c1:Lv) (d1:TE0) (h1:Rep M (ai d1) c1) (d2:Bs) (r:TG0×Int×Bs) (hF:bj n k aO aC d1 d2=some r),OkH Tryz.prog M [oC b0 #[iL aO,S aC] 54] 20 [pP b0,.agg c1.toArray,S d2] (λM' E' v=>∃ (c0:Lv),v=.agg c0.toArray∧E'=[oC b0 #[iL r.2.1,S r.2.2] 54]∧Rep M' (aA r.1) c0):=by
  intro k
  induction k with
  |zero=>intro M b0 aO aC c1 d1 h1 d2 r hF;simp[bj] at hF
  |succ k ih=>intro M b0 aO aC c1 d1 h1 d2 r hF;exact nb n (bj n k) ih M b0 aO aC c1 d1 h1 d2 r hF
 exact key n M b0 aO aC c1 d1 h1 d2 r hF
def lj (n:Nat) (rec_ref12_SameAll: (List TG0)→(List TG0)→Option Bool) (d0:TG0) (d1:TG0):Option Bool:=
 bif(decide (d0.ab=d1.ab)) then
  (bif(decide (d0.aa=d1.aa)) then
   (bif(decide (d0.ak=d1.ak)) then
    (bif(decide (d0.av=d1.av)) then
     (bif(decide (d0.aF=d1.aF)) then
      ((rec_ref12_SameAll d0.fL d1.fL).bind λX1=>
      some ((X1)))
     else
      some ((false)))
    else
     some ((false)))
   else
    some ((false)))
  else
   some ((false)))
 else
  some ((false))
set_option maxRecDepth 20000 in
theorem ri (n:Nat) (rec_ref12_SameAll: (List TG0)→(List TG0)→Option Bool) (hrec_ref12_SameAll: ∀ (M:Mem) (A0:Oa) (cap0:Nat) (d0:List TG0) (h0:Sli M 6 aA A0 cap0 d0) (A1:Oa) (cap1:Nat) (d1:List TG0) (h1:Sli M 6 aA A1 cap1 d1) (r:Bool) (hF:rec_ref12_SameAll d0 d1=some r),Ok Tryz.prog M 44 [sL A0 d0 cap0,sL A1 d1 cap1] (λ_ v=>v=bO r)) (M:Mem) (c0:Lv) (d0:TG0) (h0:Rep M (aA d0) c0) (c1:Lv) (d1:TG0) (h1:Rep M (aA d1) c1) (r:Bool) (hF:lj n rec_ref12_SameAll d0 d1=some r):Ok Tryz.prog M 21 [.agg c0.toArray,.agg c1.toArray] (λ_ v=>v=bO r):=by
 unfold lj at hF
 intro M1 hM0 w0 H w p0
 replace h0:=Rep.mono hM0 _ _ h0
 replace h1:=Rep.mono hM0 _ _ h1
 obtain⟨Z1,P1,rfl,B1⟩:=TG0.opn h0
 obtain⟨Z2,P2,rfl,B2⟩:=TG0.opn h1
 refine Re 45 Tryz.func21 rfl λa0 f0=>RR (Y5 (cs:=(aTG0 d0 Z1 P1)) (T:=31) f0 p0 λQ1 V1 W1 J1 R1 N1 _ f=>?_)
 have R2:=aU R1
 refine Y5 (cs:=(aTG0 d1 Z2 P2)) (T:=31) f N1 λQ2 V2 W2 J2 R3 N2 _ f=>?_
 have R4:=aU R3
 refine Ye f 1 λ_ f=>RR (Y f 1 λ_ f=>Y7 f N2 (fu R2) 0 rfl λ_ f=>Y f 1 λ_ f=>Y7 f N2 R4 0 rfl λ_ f=>Y f 2 λ_ f=>?_)
 rcases cE hF with⟨B3,F1⟩|⟨B3,F11⟩
 ·have f:=f.st 10 (cB B3)
  refine Y f 1 λ_ f=>Y7 f N2 (fu R2) 1 rfl λ_ f=>Y f 1 λ_ f=>Y7 f N2 R4 1 rfl λ_ f=>Z f (Y11 rfl (l:=d0.aa) (m:=d1.aa)) λ_ f=>Y f 2 λ_ f=>?_
  rcases cE F1 with⟨B4,F2⟩|⟨B4,F10⟩
  ·have f:=f.st 17 (cB B4)
   refine Y f 1 λ_ f=>Y7 f N2 (fu R2) 2 rfl λ_ f=>Y f 1 λ_ f=>Y7 f N2 R4 2 rfl λ_ f=>Y f 3 λ_ f=>?_
   rcases cE F2 with⟨B5,F3⟩|⟨B5,F9⟩
   ·have f:=f.st 24 (cB B5)
    refine Y f 1 λ_ f=>Y7 f N2 (fu R2) 3 rfl λ_ f=>Y f 1 λ_ f=>Y7 f N2 R4 3 rfl λ_ f=>Z f (Y11 rfl (l:=d0.av) (m:=d1.av)) λ_ f=>Y f 2 λ_ f=>?_
    rcases cE F3 with⟨B6,F4⟩|⟨B6,F8⟩
    ·have f:=f.st 31 (cB B6)
     refine Y f 1 λ_ f=>Y7 f N2 (fu R2) 4 rfl λ_ f=>Y f 1 λ_ f=>Y7 f N2 R4 4 rfl λ_ f=>Z f (Y11 rfl (l:=d0.aF) (m:=d1.aF)) λ_ f=>Y f 2 λ_ f=>?_
     rcases cE F4 with⟨B7,F5⟩|⟨B7,F7⟩
     ·have f:=f.st 38 (cB B7)
      refine Y f 1 λ_ f=>Y7 f N2 (fu R2) 5 rfl λ_ f=>Y f 1 λ_ f=>Y7 f N2 R4 5 rfl λ_ f=>?_
      obtain⟨X1,l1,F6⟩:=bS F5
      refine Y9 f N2 (hrec_ref12_SameAll _ Z1 P1 d0.fL B1.mo Z2 P2 d1.fL B2.mo X1 l1) λW3 N3 _ f=>Ye f 2 λ_ f=>wp_ret (am f rfl (Lk 4 (bO X1)) ?_)
      cases sI F6
      exact⟨_,rfl,_,mL,N3.kr,rfl⟩
     have f:=f.st 38 (cB B7)
     refine Ye f 7 λ_ f=>wp_ret (am f rfl (Lk 4 (bO false)) ?_)
     cases sI F7
     exact⟨_,rfl,_,mL,N2.kr,rfl⟩
    have f:=f.st 31 (cB B6)
    refine Ye f 14 λ_ f=>wp_ret (am f rfl (Lk 4 (bO false)) ?_)
    cases sI F8
    exact⟨_,rfl,_,mL,N2.kr,rfl⟩
   have f:=f.st 24 (cB B5)
   refine Ye f 21 λ_ f=>wp_ret (am f rfl (Lk 4 (bO false)) ?_)
   cases sI F9
   exact⟨_,rfl,_,mL,N2.kr,rfl⟩
  have f:=f.st 17 (cB B4)
  refine Ye f 28 λ_ f=>wp_ret (am f rfl (Lk 4 (bO false)) ?_)
  cases sI F10
  exact⟨_,rfl,_,mL,N2.kr,rfl⟩
 have f:=f.st 10 (cB B3)
 refine Ye f 35 λ_ f=>wp_ret (am f rfl (Lk 4 (bO false)) ?_)
 cases sI F11
 exact⟨_,rfl,_,mL,N2.kr,rfl⟩
def gl (n:Nat) (rec_ref12_SameAll: (List TG0)→(List TG0)→Option Bool) (d0:List TG0) (d1:List TG0) (K1:Int):Option (Lp Int (Sum Unit Unit)):=
    bif(decide (K1<((d0.length:Nat):Int))) then
     ((aB d0 K1).bind λX1=>
     (aB d1 K1).bind λX2=>
     (lj n rec_ref12_SameAll X1 X2).bind λX3=>
     bif !X3 then
      (some (.br (.inl ())))
     else
      aL (inR .i64 (K1+1))<|
      some (.nx (K1+1)))
    else
     some (.br (.inr ()))
def ii (n:Nat) (rec_ref12_SameAll: (List TG0)→(List TG0)→Option Bool) (d0:List TG0) (d1:List TG0):Option Bool:=
 bif(!(decide (((d0.length:Nat):Int)=((d1.length:Nat):Int)))) then
  (some ((false)))
 else
  (au (gl n rec_ref12_SameAll d0 d1) n (0:Int)).bind λQ1=>
  (match Q1 with
  |.inl G1=>some ((false))
  |.inr G2=>some ((true)))
set_option maxRecDepth 20000 in
theorem ph (n:Nat) (rec_ref12_SameAll: (List TG0)→(List TG0)→Option Bool) (hrec_ref12_SameAll: ∀ (M:Mem) (A0:Oa) (cap0:Nat) (d0:List TG0) (h0:Sli M 6 aA A0 cap0 d0) (A1:Oa) (cap1:Nat) (d1:List TG0) (h1:Sli M 6 aA A1 cap1 d1) (r:Bool) (hF:rec_ref12_SameAll d0 d1=some r),Ok Tryz.prog M 44 [sL A0 d0 cap0,sL A1 d1 cap1] (λ_ v=>v=bO r)) (M:Mem) (A0:Oa) (cap0:Nat) (d0:List TG0) (h0:Sli M 6 aA A0 cap0 d0) (A1:Oa) (cap1:Nat) (d1:List TG0) (h1:Sli M 6 aA A1 cap1 d1) (r:Bool) (hF:ii n rec_ref12_SameAll d0 d1=some r):Ok Tryz.prog M 44 [sL A0 d0 cap0,sL A1 d1 cap1] (λ_ v=>v=bO r):=by
 unfold ii at hF
 intro M1 hM0 w0 H w p0
 replace h0:=h0.mono hM0
 replace h1:=h1.mono hM0
 refine Re 27 Tryz.func44 rfl λa0 f0=>RR (Ye f0 1 λ_ f=>ah (RR (Ye f 5 λ_ f=>RcF f hF (λB1 F1=>?_) λB1 F2=>?_)))
 ·refine RR (Ye f 1 λ_ f=>wp_ret (bl (am f rfl (Lk 4 (bO false)) ?_)))
  cases sI F1
  exact⟨_,rfl,M1,mL,p0.kr,rfl⟩
 refine St (ah (RR (Ye f 1 λ_ f=>wp_block ?_)))
 obtain⟨Q1,ce,F3⟩:=bS F2
 refine wp_mono (Q:=λe a w=>(e=.ret∧(∃G1,Q1=.inl G1∧∃V2,M1.le V2∧Frm 27 [(4,bO false)] a∧Hp w0 V2 (H) w))∨(e=.exit 0∧(∃G2,Q1=.inr G2∧∃V3,M1.le V3∧Frm 27 [] a∧Hp w0 V3 (H) w))) (aZ (σ:=Int) (λx=>match x with|(I1,K1)=>(((5,iL K1)::kpL [0,1] f.fr),(H),λMM=>au (gl n rec_ref12_SameAll d0 d1) I1 K1=some Q1)) (n,(0:Int)) (f.kp) p0.kr ce ?_) ?_
 ·rintro⟨I1,K1⟩ V1 _ W1 J1 gL f N1
  have ci:=gL
  obtain⟨I2,lT,rfl,bg,T1⟩:=aK ci
  unfold gl at bg
  refine ah (RR (Ye f 4 λ_ f=>RcF f bg (λB2 F4=>?_) λB2 F11=>?_))
  ·refine St (ah (wp_block (ah (iG N1 kr kr (Y2 default f 2 λ_ f=>?_)))))
   obtain⟨X1,l1,F5⟩:=bS F4
   obtain⟨C1,dW,jC,D1,R1⟩:=Sli.aM V1 h0 l1
   obtain⟨Z1,P1,rfl,B3⟩:=TG0.opn D1
   refine bD f kr (λ_ pq=>XI jC l1) λ_ f=>bD f kr (λ_ pq=>XK pq R1 0) λ_ f=>Y2 default f 2 λ_ f=>?_
   obtain⟨X2,l2,F6⟩:=bS F5
   obtain⟨C2,ie,ly,D2,R2⟩:=Sli.aM V1 h1 l2
   obtain⟨Z2,P2,rfl,B4⟩:=TG0.opn D2
   refine bD f kr (λ_ pq=>XI ly l2) λ_ f=>bD f kr (λ_ pq=>XK pq R2 0) λ_ f=>?_
   obtain⟨X3,l3,F7⟩:=bS F6
   refine ls f (ri n rec_ref12_SameAll hrec_ref12_SameAll _ _ X1 D1.mo _ X2 D2.mo X3 l3) kr (λ_=>by kernel_rfl) λ_ f=>Y2 default f 1 λ_ f=>iS rfl ?_
   intro W3 N3
   refine az (RcF f F7 (λB5 F8=>?_) λB5 F9=>?_)
   ·refine RR (Ye f 1 λ_ f=>wp_ret (eu (bl (bl ?_))))
    cases sI F8
    exact .inl ⟨rfl,_,(sI T1).symm,_,J1,f.kp,N3.kr⟩
   refine wp_skip (ec (az (ay (Y f 1 λ_ f=>?_))))
   obtain⟨O1,F10⟩:=nS F9
   refine Y f 1 λ_ f=>?_
   have f:=f.st 16 (iW O1)
   refine Ye f 1 λ_ f=>?_
   cases sI F10
   exact⟨⟨_,_⟩,Nat.lt_succ_self _,_,J1,T1,f.kp,N3.kr⟩
  refine wp_exit (dJ (dJ ?_))
  cases sI F11
  exact .inr ⟨rfl,_,(sI T1).symm,_,J1,f.kp,N1.kr⟩
 rintro _ _ W6 (⟨rfl,G1,rfl,V2,J2,f,N4⟩|⟨rfl,G2,rfl,V3,J3,f,N5⟩)
 ·refine eu (bl (am f rfl (Lk 4 (bO false)) ?_))
  cases sI F3
  exact⟨_,rfl,_,J2,N4.kr,rfl⟩
 refine jV (az (RR (Ye f 1 λ_ f=>wp_ret (am f rfl (Lk 4 (bO true)) ?_))))
 cases sI F3
 exact⟨_,rfl,_,J3,N5.kr,rfl⟩
def dY (n:Nat):Nat→(List TG0)→(List TG0)→Option Bool
 |0=>λ_ _=>none
 |k+1=>ii n (dY n k)
def mj (n:Nat) (d0:List TG0) (d1:List TG0):Option Bool:=dY n n d0 d1
theorem qC (n:Nat) (M:Mem) (A0:Oa) (cap0:Nat) (d0:List TG0) (h0:Sli M 6 aA A0 cap0 d0) (A1:Oa) (cap1:Nat) (d1:List TG0) (h1:Sli M 6 aA A1 cap1 d1) (r:Bool) (hF:mj n d0 d1=some r):Ok Tryz.prog M 44 [sL A0 d0 cap0,sL A1 d1 cap1] (λ_ v=>v=bO r):=by
 have key: ∀ (k:Nat) (M:Mem) (A0:Oa) (cap0:Nat) (d0:List TG0) (h0:Sli M 6 aA A0 cap0 d0) (A1:Oa) (cap1:Nat) (d1:List TG0) (h1:Sli M 6 aA A1 cap1 d1) (r:Bool) (hF:dY n k d0 d1=some r),Ok Tryz.prog M 44 [sL A0 d0 cap0,sL A1 d1 cap1] (λ_ v=>v=bO r):=by
  intro k
  induction k with
  |zero=>intro M A0 cap0 d0 h0 A1 cap1 d1 h1 r hF;simp[dY] at hF
  |succ k ih=>intro M A0 cap0 d0 h0 A1 cap1 d1 h1 r hF;exact ph n (dY n k) ih M A0 cap0 d0 h0 A1 cap1 d1 h1 r hF
 exact key n M A0 cap0 d0 h0 A1 cap1 d1 h1 r hF
def mX (n:Nat) (d0:TG0) (d1:TG0):Option Bool:=
 bif(decide (d0.ab=d1.ab)) then
  (bif(decide (d0.aa=d1.aa)) then
   (bif(decide (d0.ak=d1.ak)) then
    (bif(decide (d0.av=d1.av)) then
     (bif(decide (d0.aF=d1.aF)) then
      ((mj n d0.fL d1.fL).bind λX1=>
      some ((X1)))
     else
      some ((false)))
    else
     some ((false)))
   else
    some ((false)))
  else
   some ((false)))
 else
  some ((false))
set_option maxRecDepth 20000 in
theorem sU (n:Nat) (M:Mem) (c0:Lv) (d0:TG0) (h0:Rep M (aA d0) c0) (c1:Lv) (d1:TG0) (h1:Rep M (aA d1) c1) (r:Bool) (hF:mX n d0 d1=some r):Ok Tryz.prog M 21 [.agg c0.toArray,.agg c1.toArray] (λ_ v=>v=bO r):=by
 unfold mX at hF
 intro M1 hM0 w0 H w p0
 replace h0:=Rep.mono hM0 _ _ h0
 replace h1:=Rep.mono hM0 _ _ h1
 obtain⟨Z1,P1,rfl,B1⟩:=TG0.opn h0
 obtain⟨Z2,P2,rfl,B2⟩:=TG0.opn h1
 refine Re 45 Tryz.func21 rfl λa0 f0=>RR (Y5 (cs:=(aTG0 d0 Z1 P1)) (T:=31) f0 p0 λQ1 V1 W1 J1 R1 N1 _ f=>?_)
 have R2:=aU R1
 refine Y5 (cs:=(aTG0 d1 Z2 P2)) (T:=31) f N1 λQ2 V2 W2 J2 R3 N2 _ f=>?_
 have R4:=aU R3
 refine Ye f 1 λ_ f=>RR (Y f 1 λ_ f=>Y7 f N2 (fu R2) 0 rfl λ_ f=>Y f 1 λ_ f=>Y7 f N2 R4 0 rfl λ_ f=>Y f 2 λ_ f=>?_)
 rcases cE hF with⟨B3,F1⟩|⟨B3,F11⟩
 ·have f:=f.st 10 (cB B3)
  refine Y f 1 λ_ f=>Y7 f N2 (fu R2) 1 rfl λ_ f=>Y f 1 λ_ f=>Y7 f N2 R4 1 rfl λ_ f=>Z f (Y11 rfl (l:=d0.aa) (m:=d1.aa)) λ_ f=>Y f 2 λ_ f=>?_
  rcases cE F1 with⟨B4,F2⟩|⟨B4,F10⟩
  ·have f:=f.st 17 (cB B4)
   refine Y f 1 λ_ f=>Y7 f N2 (fu R2) 2 rfl λ_ f=>Y f 1 λ_ f=>Y7 f N2 R4 2 rfl λ_ f=>Y f 3 λ_ f=>?_
   rcases cE F2 with⟨B5,F3⟩|⟨B5,F9⟩
   ·have f:=f.st 24 (cB B5)
    refine Y f 1 λ_ f=>Y7 f N2 (fu R2) 3 rfl λ_ f=>Y f 1 λ_ f=>Y7 f N2 R4 3 rfl λ_ f=>Z f (Y11 rfl (l:=d0.av) (m:=d1.av)) λ_ f=>Y f 2 λ_ f=>?_
    rcases cE F3 with⟨B6,F4⟩|⟨B6,F8⟩
    ·have f:=f.st 31 (cB B6)
     refine Y f 1 λ_ f=>Y7 f N2 (fu R2) 4 rfl λ_ f=>Y f 1 λ_ f=>Y7 f N2 R4 4 rfl λ_ f=>Z f (Y11 rfl (l:=d0.aF) (m:=d1.aF)) λ_ f=>Y f 2 λ_ f=>?_
     rcases cE F4 with⟨B7,F5⟩|⟨B7,F7⟩
     ·have f:=f.st 38 (cB B7)
      refine Y f 1 λ_ f=>Y7 f N2 (fu R2) 5 rfl λ_ f=>Y f 1 λ_ f=>Y7 f N2 R4 5 rfl λ_ f=>?_
      obtain⟨X1,l1,F6⟩:=bS F5
      refine Y9 f N2 (qC n _ Z1 P1 d0.fL B1.mo Z2 P2 d1.fL B2.mo X1 l1) λW3 N3 _ f=>Ye f 2 λ_ f=>wp_ret (am f rfl (Lk 4 (bO X1)) ?_)
      cases sI F6
      exact⟨_,rfl,_,mL,N3.kr,rfl⟩
     have f:=f.st 38 (cB B7)
     refine Ye f 7 λ_ f=>wp_ret (am f rfl (Lk 4 (bO false)) ?_)
     cases sI F7
     exact⟨_,rfl,_,mL,N2.kr,rfl⟩
    have f:=f.st 31 (cB B6)
    refine Ye f 14 λ_ f=>wp_ret (am f rfl (Lk 4 (bO false)) ?_)
    cases sI F8
    exact⟨_,rfl,_,mL,N2.kr,rfl⟩
   have f:=f.st 24 (cB B5)
   refine Ye f 21 λ_ f=>wp_ret (am f rfl (Lk 4 (bO false)) ?_)
   cases sI F9
   exact⟨_,rfl,_,mL,N2.kr,rfl⟩
  have f:=f.st 17 (cB B4)
  refine Ye f 28 λ_ f=>wp_ret (am f rfl (Lk 4 (bO false)) ?_)
  cases sI F10
  exact⟨_,rfl,_,mL,N2.kr,rfl⟩
 have f:=f.st 10 (cB B3)
 refine Ye f 35 λ_ f=>wp_ret (am f rfl (Lk 4 (bO false)) ?_)
 cases sI F11
 exact⟨_,rfl,_,mL,N2.kr,rfl⟩
def dS (n:Nat) (d0:TG0) (d1:TG0):Option Bool:=
 (mX n d0 d1).bind λX1=>
 some ((X1))
theorem iP (n:Nat) (M:Mem) (c0:Lv) (d0:TG0) (h0:Rep M (aA d0) c0) (c1:Lv) (d1:TG0) (h1:Rep M (aA d1) c1) (r:Bool) (hF:dS n d0 d1=some r):Ok Tryz.prog M 10 [.agg c0.toArray,.agg c1.toArray] (λ_ v=>v=bO r):=by
 unfold dS at hF
 intro M1 hM0 w0 H w p0
 replace h0:=Rep.mono hM0 _ _ h0
 replace h1:=Rep.mono hM0 _ _ h1
 obtain⟨Z1,P1,rfl,B1⟩:=TG0.opn h0
 obtain⟨Z2,P2,rfl,B2⟩:=TG0.opn h1
 refine Re 8 Tryz.func10 rfl λa0 f0=>RR (Y5 (cs:=(aTG0 d0 Z1 P1)) (T:=31) f0 p0 λQ1 V1 W1 J1 R1 N1 _ f=>?_)
 have R2:=aU R1
 refine Y5 (cs:=(aTG0 d1 Z2 P2)) (T:=31) f N1 λQ2 V2 W2 J2 R3 N2 _ f=>?_
 have R4:=aU R3
 refine Ye f 1 λ_ f=>RR (Z f (XK N2 R2 0) λ_ f=>Z f (XK N2 R4 0) λ_ f=>?_)
 obtain⟨X1,l1,F1⟩:=bS hF
 refine Y9 f N2 (sU n _ _ d0 h0.mo _ d1 h1.mo X1 l1) λW3 N3 _ f=>Ye f 1 λ_ f=>wp_ret (am f rfl (Lk 4 (bO X1)) ?_)
 cases sI F1
 exact⟨_,rfl,_,mL,N3.kr,rfl⟩
theorem ke {n:Nat} {v:TE0} (hn:100000≤n) (h:v.aa.length≤5000):dU n v=some (nameV v):=by
 unfold dU nameV
 cases hk:decide (v.ab=3) with
 |false=>rw[cF,Bool.false_and]
 |true=>rw[cT,kQ (by omega) (by omega),bnd,Bool.true_and]
theorem sH {n:Nat} {v:TE0} (hn:100000≤n) (h:v.aa.length≤5000):iZ n v=some (wordV v):=by
 unfold iZ wordV mW wordS
 cases hk:decide (v.ab=3) with
 |false=>rw[cF,Bool.false_and]
 |true=>
  rw[cT,Bool.true_and]
  cases hl:decide ((v.aa.length:Int)≤64) with
  |false=>rw[cF,bnd,Bool.false_and]
  |true=>rw[cT,oy (by omega) (by omega) (by omega),bnd,bnd,Bool.true_and]
theorem dw {n:Nat} {a k:Bs} (ha:a.length≤1000000) (hk:k.length≤1000000):bt n a k=some (undS a k):=by
 unfold bt undS
 by_cases h:a=[]
 ·rw[dT h,cT,if_pos h]
 rw[dF h,cF,if_neg h,aP (by simp;omega),aP (by simp;omega)]
theorem iO {n:Nat} {a:Bs} {i:Nat} (ha:a.length≤1000000) (hi:i≤8):bx n a (i:Int)=some (plcS a i):=by
 unfold bx mI
 rw[bnd,dw ha (by have:=num_len hi;omega),bnd]
 rfl
abbrev RX:=TG0×Int×Bs
def Doc {α:Type} (at0:Bs) (x:FX α) (o:Option (α×Int×Bs)):Prop:=match x with
 |.inl p=>p.1≠0∧∃j,o=some (j,p.1,p.2)
 |.inr x=>o=some (x,0,at0)
theorem bP {n:Nat} {at0 p:Bs} {e:Int}:aq n 0 at0 e p=some (e,p):=rfl
abbrev RcT:=Int→Bs→TE0→Bs→Option RX
structure RecOk (rc:RcT) (E:TE0→Bs→FX TG0) (l:List TE0) (at_:Bs):Prop where
 go: ∀x∈l,∀i,i≤8→∀at0,Doc at0 (E x (plcS at_ i)) (rc 0 at0 x (plcS at_ i))
 stop: ∀ (e:Int) at0 x p,e≠0→rc e at0 x p=some (aQ,e,at0)
theorem tE {n : Nat} {rc : RcT} {E : TE0 → List UInt8 → FX TG0} {v : TE0} {at_ at0 : List UInt8} (hat : at_.length ≤ 1000000) (hl : v.ac.length ≤ 8)
  (hr : RecOk rc E v.ac at_) : ∀ (m i : Nat) (acc : List TG0), i + m = v.ac.length → acc.length ≤ i → ∀ q, m < q →
  ∃ b, au (cq n rc v at_) q ((i : Int), 0, at0, acc) = some b ∧ (match exL E at_ i (v.ac.drop i) with | .inl p => p.1 ≠ 0 ∧ b.1 = p.1 ∧ b.2.1 = p.2 | .inr xs => b = (0, at0, acc ++ xs))
 | m, i, acc, hm, ha, q, hq => by
  obtain ⟨q, rfl⟩ : ∃ r, q = r + 1 := ⟨q - 1, by omega⟩
  rw [au, cq]
  dsimp only
  by_cases hlt : i < v.ac.length
  ·obtain ⟨m, rfl⟩ : ∃ r, m = r + 1 := ⟨m - 1, by omega⟩
   have hg : aB v.ac (i : Int) = some v.ac[i] := by simp [aB, hlt]
   have hdoc := hr.go _ (List.getElem_mem hlt) i (by omega) at0
   rw [decide_eq_true (by omega : (i : Int) < (v.ac.length : Int)), cT, decide_eq_true rfl, bnd, cT, hg, bnd, iO hat (by omega), bnd, List.drop_eq_getElem_cons hlt, exL]
   have ih := fun acc h => tE (n := n) (at0 := at0) hat hl hr m (i + 1) acc (by omega) h q (by omega)
   have e : (i : Int) + 1 = ((i + 1 : Nat) : Int) := by omega
   cases hE : E v.ac[i] (plcS at_ i) with
   | inl p =>
    rw [hE] at hdoc
    obtain ⟨hp, j, hj⟩ := hdoc
    rw [hj, bnd, aP (by omega), bnd, aI (by omega) (by omega), bnd, e]
    obtain ⟨q, rfl⟩ : ∃ r, q = r + 1 := ⟨q - 1, by omega⟩
    dsimp only
    rw [au, cq]
    dsimp only
    have key : (bif decide (((i + 1 : Nat) : Int) < ((v.ac.length : Nat) : Int)) then some (decide (p.1 = 0)) else some false : Option Bool) = some false := by
     cases decide (((i + 1 : Nat) : Int) < ((v.ac.length : Nat) : Int)) with
     | false => rfl
     | true => rw [cT, decide_eq_false hp]
    rw [key, bnd, cF, bnd]
    exact ⟨_, rfl, hp, rfl, rfl⟩
   | inr x =>
    rw [hE] at hdoc
    have hdoc' : rc 0 at0 v.ac[i] (plcS at_ i) = some (x, 0, at0) := hdoc
    rw [hdoc', bnd, aP (by omega), bnd, aI (by omega) (by omega), bnd, e]
    have ev : (⟨x.ab, x.aa, x.ak, x.av, x.aF, x.fL⟩ : TG0) = x := by cases x; rfl
    dsimp only
    obtain ⟨b, hb, hc⟩ := ih (acc ++ [x]) (by rw [List.length_append, List.length_singleton]; omega)
    refine ⟨b, hb, ?_⟩
    cases hx : exL E at_ (i + 1) (v.ac.drop (i + 1)) with
    | inl p => rw [hx] at hc; exact hc
    | inr xs => rw [hx] at hc; dsimp only at hc ⊢; rw [hc, List.append_assoc]; rfl
  rw [decide_eq_false (by omega), cF, bnd, cF, bnd, List.drop_eq_nil_of_le (by omega), exL]
  refine ⟨_, rfl, ?_⟩
  dsimp only
  rw [List.append_nil]
theorem sh {rc : RcT} {E : TE0 → List UInt8 → FX TG0} {l : List TE0} {at_ at0 : List UInt8} (hr : RecOk rc E l at_) {a b : TE0} (ha : a ∈ l) (hb : b ∈ l) {i : Nat} (hi : i ≤ 7) :
  ∃ y1 y2, rc 0 at0 a (plcS at_ i) = some y1 ∧ rc y1.2.1 y1.2.2 b (plcS at_ (i + 1)) = some y2 ∧ (match exL E at_ i [a, b] with | .inl p => p.1 ≠ 0 ∧ y2.2.1 = p.1 ∧ y2.2.2 = p.2 | .inr xs => xs = [y1.1, y2.1] ∧ y2.2.1 = 0 ∧ y2.2.2 = at0) := by
 have h1 := hr.go a ha i (by omega) at0
 rw [exL, exL, exL]
 cases hE : E a (plcS at_ i) with
 | inl p =>
  rw [hE] at h1
  obtain ⟨hp, j, hj⟩ := h1
  exact ⟨_, _, hj, hr.stop p.1 p.2 _ _ hp, hp, rfl, rfl⟩
 | inr x =>
  rw [hE] at h1
  have h1' : rc 0 at0 a (plcS at_ i) = some (x, 0, at0) := h1
  have h2 := hr.go b hb (i + 1) (by omega) at0
  cases hE2 : E b (plcS at_ (i + 1)) with
  | inl p =>
   rw [hE2] at h2
   obtain ⟨hp, j, hj⟩ := h2
   exact ⟨_, _, h1', hj, hp, rfl, rfl⟩
  | inr y =>
   rw [hE2] at h2
   have h2' : rc 0 at0 b (plcS at_ (i + 1)) = some (y, 0, at0) := h2
   exact ⟨_, _, h1', h2', rfl, rfl, rfl⟩
theorem call_doc {n : Nat} {rc : RcT} {E : TE0 → List UInt8 → FX TG0} {key : List UInt8} {v : TE0} {at_ at0 : List UInt8} (hn : 100000 ≤ n) (hat : at_.length ≤ 1000000) (hv0 : v.aa.length ≤ 5000) (hv : ∀ x ∈ v.ac, x.aa.length ≤ 5000)
  (hr : RecOk rc E v.ac at_) : Doc at0 (callV E key v at_) (eH n rc 0 at0 key v at_) := by
 unfold eH callV
 have hshp : Doc at0 (shp at_) (some (aQ, 121, at_)) := ⟨(by decide : (121 : Int) ≠ 0), _, rfl⟩
 have hend : (((some (Lp.nx ()) : Option (Lp Unit RX)).bind fun j => joinF j fun y_10 => (aq n 0 at0 (121 : Int) at_).bind fun x_52 => some ((aQ, x_52.1, x_52.2)))) = some (aQ, 121, at_) := rfl
 cases hk1 : decide (key = [82, 101, 102]) with
 | true =>
  rw [cT, cT, ke hn hv0, bnd, c1V]
  cases nameV v with
  | false => rw [cF, cF, hend]; exact hshp
  | true => rw [cT, cT, joinbr]; exact rfl
 | false =>
  rw [cF, cF]
  cases hk2 : decide (key = [71, 101, 116, 65, 116, 116]) with
  | true =>
   rw [cT, cT, c2V]
   rcases iF v with ⟨a, b, h, hk, hl⟩ | ⟨h, hk⟩
   ·have g0 : aB v.ac 0 = some a := by rw [hl]; rfl
    have g1 : aB v.ac 1 = some b := by rw [hl]; rfl
    rw [h, decide_eq_true hk, cT, decide_eq_true (by rw [hl]; rfl), cT, g0, bnd, bnd, g1, bnd, bnd, bnd, ke hn (hv a (by simp [hl])), bnd]
    dsimp only
    cases nameV a with
    | false => rw [cF, bnd, cF, hend]; exact hshp
    | true =>
     rw [cT, Bool.true_and]
     cases hb : decide (b.ab = 3) with
     | false => rw [cF, bnd, cF, hend]; exact hshp
     | true =>
      have := hv b (by simp [hl])
      rw [cT, attr_ref (by omega) (by omega), bnd, bnd, Bool.true_and]
      cases attrS b.aa with
      | false => rw [cF, cF, hend]; exact hshp
      | true => rw [cT, cT, joinbr]; exact rfl
   have key : (bif decide (v.ab = 4) then (bif decide (((v.ac.length : Nat) : Int) = 2) then ((aB v.ac (0 : Int)).bind fun x_2 => (dU n x_2).bind fun x_3 => bif x_3 then ((aB v.ac (1 : Int)).bind fun x_4 => bif (decide (x_4.ab = 3)) then ((aB v.ac (1 : Int)).bind fun x_5 => (jS n x_5.aa).bind fun x_6 => some ((x_6))) else some ((false))) else some ((false))) else some ((false))) else some ((false)) : Option Bool) = some false := by
    by_cases h4 : v.ab = 4
    ·rw [decide_eq_true h4, cT, decide_eq_false (by rcases hk with hk | hk <;> omega), cF]
    rw [decide_eq_false h4, cF]
   rw [h, key, bnd, cF, hend]
   exact hshp
  | false =>
   rw [cF, cF]
   cases hk3 : decide (key = [83, 117, 98]) with
   | true =>
    rw [cT, cT, c3V]
    cases h3 : decide (v.ab = 3) with
    | false => rw [cF, cF, hend]; exact hshp
    | true =>
     rw [cT, cT, lex_ref (by omega) (by omega), bnd]
     cases hz : decide ((lexS v.aa).2.2 = 0) with
     | true => rw [Bool.not_true, cF, cT, joinbr]; exact rfl
     | false => rw [Bool.not_false, cT, cF, bP, bnd, joinbr]; exact ⟨of_decide_eq_false hz, _, rfl⟩
   | false =>
    rw [cF, cF]
    cases hk4 : decide (key = [73, 102]) with
    | true =>
     rw [cT, cT, c4V]
     rcases mc v with ⟨a, b, c, h, hk, hl⟩ | ⟨h, hk⟩
     ·have g0 : aB v.ac 0 = some a := by rw [hl]; rfl
      have g1 : aB v.ac 1 = some b := by rw [hl]; rfl
      have g2 : aB v.ac 2 = some c := by rw [hl]; rfl
      have e1 : bx n at_ 1 = some (plcS at_ 1) := iO (i := 1) hat (by omega)
      have e2 : bx n at_ 2 = some (plcS at_ (1 + 1)) := iO (i := 2) hat (by omega)
      rw [h, decide_eq_true hk, cT, decide_eq_true (by rw [hl]; rfl), cT, g0, bnd, ke hn (hv a (by simp [hl])), bnd, bnd]
      dsimp only
      cases nameV a with
      | false => rw [cF, cF, hend]; exact hshp
      | true =>
       obtain ⟨y1, y2, h1, h2, h3⟩ := sh (at0 := at0) hr (a := b) (b := c) (by simp [hl]) (by simp [hl]) (i := 1) (by omega)
       rw [cT, cT, g1, bnd, e1, bnd, h1, bnd, bnd]
       dsimp only
       rw [g2, bnd, e2, bnd, h2, bnd, bnd, bnd, joinbr]
       cases hx : exL E at_ 1 [b, c] with
       | inl p => rw [hx] at h3; dsimp only at h3; rw [h3.2.1, h3.2.2]; exact ⟨h3.1, _, rfl⟩
       | inr xs => rw [hx] at h3; dsimp only at h3; rw [h3.2.1, h3.2.2, h3.1]; exact rfl
     have key : (bif decide (v.ab = 4) then (bif decide (((v.ac.length : Nat) : Int) = 3) then ((aB v.ac (0 : Int)).bind fun x_2 => (dU n x_2).bind fun x_3 => some x_3) else some ((false))) else some ((false)) : Option Bool) = some false := by
      by_cases h4 : v.ab = 4
      ·rw [decide_eq_true h4, cT, decide_eq_false (by rcases hk with hk | hk <;> omega), cF]
      rw [decide_eq_false h4, cF]
     rw [h, key, bnd, cF, hend]
     exact hshp
    | false =>
     rw [cF, cF]
     cases hk5 : decide (key = [74, 111, 105, 110]) with
     | true =>
      rw [cT, cT, c5V]
      rcases iF v with ⟨a, b, h, hk, hl⟩ | ⟨h, hk⟩
      ·have g0 : aB v.ac 0 = some a := by rw [hl]; rfl
       have g1 : aB v.ac 1 = some b := by rw [hl]; rfl
       have e1 : bx n at_ 1 = some (plcS at_ 1) := iO (i := 1) hat (by omega)
       rw [h, decide_eq_true hk, cT, decide_eq_true (by rw [hl]; rfl), cT, g0, bnd, sH hn (hv a (by simp [hl])), bnd, bnd]
       dsimp only
       cases wordV a with
       | false => rw [cF, cF, hend]; exact hshp
       | true =>
        have hd := hr.go b (by simp [hl]) 1 (by omega) at0
        rw [cT, cT, g1, bnd, e1, bnd, exL, exL]
        cases hE : E b (plcS at_ 1) with
        | inl p =>
         rw [hE] at hd
         obtain ⟨hp, j, hj⟩ := hd
         rw [hj, bnd, bnd, bnd, joinbr]
         exact ⟨hp, _, rfl⟩
        | inr x =>
         rw [hE] at hd
         have hd' : rc 0 at0 b (plcS at_ 1) = some (x, 0, at0) := hd
         rw [hd', bnd, bnd, bnd, joinbr]
         exact rfl
      have key : (bif decide (v.ab = 4) then (bif decide (((v.ac.length : Nat) : Int) = 2) then ((aB v.ac (0 : Int)).bind fun x_2 => (iZ n x_2).bind fun x_3 => some x_3) else some ((false))) else some ((false)) : Option Bool) = some false := by
       by_cases h4 : v.ab = 4
       ·rw [decide_eq_true h4, cT, decide_eq_false (by rcases hk with hk | hk <;> omega), cF]
       rw [decide_eq_false h4, cF]
      rw [h, key, bnd, cF, hend]
      exact hshp
     | false =>
      rw [cF, cF]
      cases hk6 : decide (key = [83, 101, 108, 101, 99, 116]) with
      | true =>
       rw [cT, cT, c6V]
       rcases iF v with ⟨a, b, h, hk, hl⟩ | ⟨h, hk⟩
       ·have g0 : aB v.ac 0 = some a := by rw [hl]; rfl
        have g1 : aB v.ac 1 = some b := by rw [hl]; rfl
        have e0 : bx n at_ 0 = some (plcS at_ 0) := iO (i := 0) hat (by omega)
        have e1 : bx n at_ 1 = some (plcS at_ (0 + 1)) := iO (i := 1) hat (by omega)
        obtain ⟨y1, y2, h1, h2, h3⟩ := sh (at0 := at0) hr (a := a) (b := b) (by simp [hl]) (by simp [hl]) (i := 0) (by omega)
        rw [h, decide_eq_true hk, cT, decide_eq_true (by rw [hl]; rfl), bnd, cT, g0, bnd, e0, bnd, h1, bnd, bnd]
        dsimp only
        rw [g1, bnd, e1, bnd, h2, bnd, bnd, joinbr]
        cases hx : exL E at_ 0 [a, b] with
        | inl p => rw [hx] at h3; dsimp only at h3; rw [h3.2.1, h3.2.2]; exact ⟨h3.1, _, rfl⟩
        | inr xs => rw [hx] at h3; dsimp only at h3; rw [h3.2.1, h3.2.2, h3.1]; exact rfl
       have key : (bif decide (v.ab = 4) then (some (decide (((v.ac.length : Nat) : Int) = 2))) else some ((false)) : Option Bool) = some false := by
        by_cases h4 : v.ab = 4
        ·rw [decide_eq_true h4, cT, decide_eq_false (by rcases hk with hk | hk <;> omega)]
        rw [decide_eq_false h4, cF]
       rw [h, key, bnd, cF, hend]
       exact hshp
      | false =>
       rw [cF, cF, hend]
       exact hshp
theorem qc {n:Nat} (k:Nat) (e:Int) (at0:Bs) (x:TE0) (p:Bs) (he:e≠0):bj n (k+1) e at0 x p=some (aQ,e,at0):=by
 show dh n (bj n k) e at0 x p=_
 unfold dh
 rw[dF he,nF,cT]
theorem rR {n:Nat} (hn:100000≤n): ∀ (k d:Nat) (v:TE0) (at_ at0:Bs),d<k→Small d v→OkV v→at_.length+6000*d≤900000→Doc at0 (exprV d v at_) (bj n k 0 at0 v at_)
 |_,0,v,_,_,_,h,_,_=>h.elim
 |0,d+1,v,_,_,h,_,_,_=>absurd h (by omega)
 |k+1,d+1,v,at_,at0,hk,hs,hok,hat=>by
  have hs0:=hs
  obtain⟨s1,s2,s3,s4,s5⟩:=hs
  have hp:=OkV.plain hok
  obtain⟨k,rfl⟩: ∃j,k=j+1:=⟨k-1,by omega⟩
  have ih: ∀x,Small d x→OkV x→∀p at0:Bs,p.length+6000*d≤900000→Doc at0 (exprV d x p) (bj n (k+1) 0 at0 x p):=λx hx hx' p at0 h=>rR hn (k+1) d x p at0 (by omega) hx hx' h
  show Doc at0 (exprB (exprV d) v at_) (dh n (bj n (k+1)) 0 at0 v at_)
  unfold dh
  have hshp:Doc at0 (shp at_) (some (aQ,121,at_)):=⟨(by decide: (121:Int)≠0),_,rfl⟩
  have hend: (((some (Lp.nx ()):Option (Lp Unit RX)).bind λj=>joinF j λy_10=>(aq n 0 at0 (121:Int) at_).bind λx_52=>some ((aQ,x_52.1,x_52.2))))=some (aQ,121,at_):=rfl
  rw[dT rfl,nT,cF]
  cases h3:decide (v.ab=3) with
  |true=>
   rw[cT,sH hn s3,bnd,exprB,h3,cT]
   cases wordV v with
   |false=>rw[nF,cT,cF,bP,bnd,joinbr];exact⟨(by decide: (121:Int)≠0),_,rfl⟩
   |true=>rw[nT,cF,cT,joinbr];exact rfl
  |false=>
   rw[cF]
   cases h2:decide (v.ab=2) with
   |true=>rw[cT,exprB,h3,cF,h2,cT,joinbr];exact rfl
   |false=>
    rw[cF]
    cases h4:decide (v.ab=4) with
    |true=>
     rw[cT,exprB,h3,cF,h2,cF,h4,cT]
     cases h8:decide (((v.ac.length:Nat):Int)≤8) with
     |false=>
      have h8':=of_decide_eq_false h8
      rw[cF,dT (by omega),cT,bP,bnd,bnd]
      obtain⟨m,hm⟩: ∃m,n=m+1:=⟨n-1,by omega⟩
      have: ∀q,au (cq n (bj n (k+1)) v at_) (q+1) ((0:Int),3,at_,([]:List TG0))=some (3,at_,[]):=λq=>by
       rw[au,cq]
       dsimp only
       rw[dT (by omega),cT,dF (by decide),bnd,cF,bnd]
      have:=this m
      rw[←hm] at this
      dsimp only
      rw[this,bnd,joinbr]
      exact⟨(by decide: (3:Int)≠0),_,rfl⟩
     |true=>
      have h8':=of_decide_eq_true h8
      rw[cT,dF (by omega),cF,bnd]
      obtain⟨b,hb,hc⟩:=tE (n:=n) (rc:=bj n (k+1)) (E:=exprV d) (v:=v) (at_:=at_) (at0:=at0) (by omega) (by omega)
       ⟨λx hx i hi at0=>ih x (s5 x hx) (hok.part hx) _ _ (by have:=lC (a:=at_) hi;omega),λe at0 x p he=>qc k e at0 x p he⟩ v.ac.length 0 [] (by omega) (by simp) n (by omega)
      have e1: ((0:Nat):Int)=0:=rfl
      rw[e1] at hb
      rw[List.drop_zero] at hc
      dsimp only
      rw[hb,bnd,joinbr]
      cases hx:exL (exprV d) at_ 0 v.ac with
      |inl p=>rw[hx] at hc;dsimp only at hc;rw[hc.2.1,hc.2.2];exact⟨hc.1,_,rfl⟩
      |inr xs=>rw[hx] at hc;dsimp only at hc;rw[hc];exact rfl
    |false=>
     have k3:=of_decide_eq_false h3
     have k2:=of_decide_eq_false h2
     have k4:=of_decide_eq_false h4
     rw[cF]
     cases h5:decide (v.ab=5) with
     |false=>
      rw[cF,mH k3 k2 k4 (λh=>of_decide_eq_false h5 (Classical.byContradiction λh'=>by have:=hp.2.2.2.2.2.2.2 h';omega)),hend]
      exact hshp
     |true=>
      rw[cT]
      cases h1:decide (((v.af.length:Nat):Int)=1) with
      |false=>
       rw[cF,mH k3 k2 k4 (λh=>of_decide_eq_false h1 (by omega)),hend]
       exact hshp
      |true=>
       obtain⟨key,x,hks,hls⟩:=one_key hp (of_decide_eq_true h5) (by have:=of_decide_eq_true h1;omega)
       have hx:x∈v.ac:=by rw[hls];simp
       have hkey:key.length≤5000:=s4 key (by rw[hks];simp)
       have hxs:x.aa.length≤5000:=(Small.wide (s5 x hx)).2.2.1
       have hxl: ∀y∈x.ac,y.aa.length≤5000:=λy hy=>(Small.wide (kE (s5 x hx) hy)).2.2.1
       have g0:aB v.af 0=some key:=by rw[hks];rfl
       have g1:aB v.ac 0=some x:=by rw[hls];rfl
       have hu:=dw (n:=n) (a:=at_) (k:=key) (by omega) (by omega)
       have hul:=kZ at_ key
       have hr:RecOk (bj n (k+1)) (exprV d) x.ac (undS at_ key):=
        ⟨λy hy i hi at0=>ih y (kE (s5 x hx) hy) ((hok.part hx).part hy) _ _ (by have hpl:=lC (a:=undS at_ key) hi;omega),λe at0 x p he=>qc k e at0 x p he⟩
       rw[rQ (of_decide_eq_true h5) hks hls,cT,g0,bnd,g1,bnd,bnd,hu,bnd]
       have hcall:=call_doc (n:=n) (at0:=at0) (key:=key) hn (by omega) hxs hxl hr
       generalize eH n (bj n (k+1)) 0 at0 key x (undS at_ key)=o at hcall ⊢
       cases hE:callV (exprV d) key x (undS at_ key) with
       |inl p=>
        rw[hE] at hcall
        obtain⟨hp,j,hj⟩:=hcall
        rw[hj,bnd,joinbr]
        exact⟨hp,_,rfl⟩
       |inr z=>
        rw[hE] at hcall
        have hcall':o=some (z,0,at0):=hcall
        rw[hcall',bnd,joinbr]
        exact rfl
end Go.Proofs.YtkopljikappieaaGreatDoor
end
