/-
  Texts of this claim, packed (what nothing names is left out): SubM, VkG, VkH, VkI, VkP, X0, X0h, X1w, Num, NumC, TextC, Num2, NumH, X1, X1h, X2, VkR, TakH, X3, SynP1. Own work, partly printed by own programs. No condition.
-/
import Derived.Test.YtkopljikappieaaGreatDoorPkF2
import Derived.Test.YtkopljikappieaaGreatDoorPkF3
import Derived.Lib.IndexLaws
import Derived.Test.YtkopljikappieaaGreatDoorPkF1
import Derived.Laws.StructEq
import Derived.Test.YtkopljikappieaaGreatDoorRows
import GoSem.Op.String
import Derived.Recover
set_option linter.unusedVariables false
set_option linter.unusedSimpArgs false
set_option maxHeartbeats 2000000
section
section
namespace Go.Proofs.YtkopljikappieaaGreatDoor
open Go Go.Vc
def isL (c:UInt8):Bool:=(decide (97≤c.toNat)&&decide (c.toNat≤122))|| (decide (65≤c.toNat)&&decide (c.toNat≤90))
def isD (c:UInt8):Bool:=decide (48≤c.toNat)&&decide (c.toNat≤57)
def nameS (s:Bs):Bool:=decide (1≤s.length)&&decide (s.length≤32)&&isL (s.getD 0 0)&&s.all λc=>isL c||isD c
theorem byte_lt (c:UInt8):c.toNat<256:=c.toNat_lt
theorem ot (n:Nat) (c:UInt8):eA n (c.toNat:Int)=some (isL c):=by
 unfold eA isL
 by_cases h1:97≤c.toNat<;>by_cases h2:c.toNat≤122<;>by_cases h3:65≤c.toNat<;>by_cases h4:c.toNat≤90<;>
  simp[h1,h2,h3,h4,show(97:Int)≤(c.toNat:Int)↔97≤c.toNat by omega,show(c.toNat:Int)≤122↔c.toNat≤122 by omega,show(65:Int)≤(c.toNat:Int)↔65≤c.toNat by omega,show(c.toNat:Int)≤90↔c.toNat≤90 by omega]<;>omega
theorem digit_eq (n:Nat) (c:UInt8):gQ n (c.toNat:Int)=some (isD c):=by
 unfold gQ isD
 by_cases h1:48≤c.toNat<;>by_cases h2:c.toNat≤57<;>
  simp[h1,h2,show(48:Int)≤(c.toNat:Int)↔48≤c.toNat by omega,show(c.toNat:Int)≤57↔c.toNat≤57 by omega]
theorem jU {n:Nat} {s:Bs} (hn:s.length<n) (hs:s.length<1000000):dD n s=some (nameS s):=by
 unfold dD
 by_cases h1: (s.length:Int)<1
 ·rw[dT h1,cT,bnd,cT]
  have: ¬1≤s.length:=by omega
  simp[nameS,this]
 ·rw[dF h1,cF]
  by_cases h2: (32:Int)<(s.length:Int)
  ·rw[dT h2,cT,bnd,cT]
   have: ¬s.length≤32:=by omega
   simp[nameS,this]
  ·rw[dF h2,cF,getI_in (i:=0) 0 (by omega) (by omega),bnd,ot,bnd,bnd,Int.toNat_zero]
   have e1:1≤s.length:=by omega
   have e2:s.length≤32:=by omega
   cases hl:isL (s.getD 0 0) with
   |false=>
    rw[nF,cT]
    simp[nameS,hl,-List.getD_eq_getElem?_getD]
   |true=>
    rw[nT,cF]
    have hloop:=lf (n:=n) (step:=dS n s) (λk=> !(isL (s.getD k 0)||isD (s.getD k 0))) s.length (.inl ()) (.inr ()) (λk hk=>by
     unfold dS
     rw[dT (by omega: (k:Int)<(s.length:Int)),cT,da 0 hk,bnd,ot,bnd]
     cases isL (s.getD k 0) with
     |true=>
      rw[nT,cF,aW (by omega) (by omega)]
      simp
     |false=>
      rw[nF,cT,bnd,digit_eq,bnd]
      cases isD (s.getD k 0) with
      |true=>
       rw[nT,cF,aW (by omega) (by omega)]
       simp
      |false=>simp) (by
     unfold dS
     rw[dF (by omega),cF]) hn
    rw[hloop,bnd,lA 0 (λc=> !(isL c||isD c)) s]
    have e3: (s.any λc=> !(isL c||isD c))= !(s.all λc=>isL c||isD c):=by
     rw[List.not_all_eq_any_not]
    rw[e3]
    cases hq: (s.all λc=>isL c||isD c)<;>simp[nameS,hl,hq,e1,e2,-List.getD_eq_getElem?_getD]
theorem or32 (c:UInt8):bOr .u8 (c.toNat:Int) 32=((c|||32).toNat:Int):=by
 have h:=byte_lt c
 have h2:c.toNat|||32<256:=Nat.or_lt_two_pow (n:=8) h (by decide)
 have e:bOr .u8 (c.toNat:Int) 32=IntKind.wrap .u8 (((c|||32).toNat:Nat):Int):=by
  unfold bOr
  congr 1
  have e2: (BitVec.ofInt IntKind.u8.bits (c.toNat:Int))=BitVec.ofNat 8 c.toNat:=by
   show BitVec.ofInt 8 _=_
   simp
  rw[e2]
  show(((BitVec.ofNat 8 c.toNat|||BitVec.ofInt 8 32).toNat:Nat):Int)=_
  simp
 rw[e,lY _ (by simp) _]
theorem low_all: ((List.range 256).all λm=>(decide (97≤(m|||32))&&decide ((m|||32)≤122))== ((decide (97≤m)&&decide (m≤122))|| (decide (65≤m)&&decide (m≤90))))=true:=by kernel_rfl
theorem low_L (c:UInt8): (decide (97≤(c|||32).toNat)&&decide ((c|||32).toNat≤122))=isL c:=by
 have h:=List.all_eq_true.1 low_all c.toNat (List.mem_range.2 (byte_lt c))
 have e: (c|||32).toNat=c.toNat|||32:=by simp
 rw[e]
 exact eq_of_beq h
theorem jV {n:Nat} {s:Bs} (hn:s.length<n) (hs:s.length<1000000):ce n s=some (nameS s):=by
 unfold ce
 have hloop:=lf (n:=n) (step:=dV n s) (λk=> !(isL (s.getD k 0)|| (!decide (k=0)&&isD (s.getD k 0)))) s.length (.inl ()) (.inr ()) (λk hk=>by
  unfold dV
  rw[dT (by omega: (k:Int)<(s.length:Int)),cT,da 0 hk,bnd,or32]
  have e1: (bif decide ((97:Int)≤((s.getD k 0|||32).toNat:Int)) then some (decide (((s.getD k 0|||32).toNat:Int)≤122)) else some false)=some (isL (s.getD k 0)):=by
   rw[←low_L]
   by_cases h1:97≤(s.getD k 0|||32).toNat
   ·rw[dT (by omega: (97:Int)≤((s.getD k 0|||32).toNat:Int)),cT,dT h1,Bool.true_and]
    congr 1
    rw[decide_eq_decide]
    omega
   ·rw[dF (by omega: ¬ (97:Int)≤((s.getD k 0|||32).toNat:Int)),cF,dF h1,Bool.false_and]
  rw[e1,bnd]
  cases isL (s.getD k 0) with
  |true=>
   rw[nT,cF,aW (by omega) (by omega)]
   simp
  |false=>
   rw[nF,cT]
   by_cases h0:k=0
   ·rw[dT (by omega: (k:Int)=0),cT]
    simp[h0]
   ·rw[dF (by omega: ¬ (k:Int)=0),cF,bnd]
    by_cases h1:48≤(s.getD k 0).toNat
    ·rw[dF (by omega: ¬ ((s.getD k 0).toNat:Int)<48),cF,bnd]
     by_cases h2: (s.getD k 0).toNat≤57
     ·rw[dF (by omega: ¬ (57:Int)<((s.getD k 0).toNat:Int)),cF,aW (by omega) (by omega)]
      simp only[isD,dT h1,dT h2,dF h0]
      simp
     ·rw[dT (by omega: (57:Int)<((s.getD k 0).toNat:Int)),cT]
      simp only[isD,dT h1,dF h2,dF h0]
      simp
    ·rw[dT (by omega: ((s.getD k 0).toNat:Int)<48),cT]
     simp only[isD,dF h1,dF h0]
     simp) (by
  unfold dV
  rw[dF (by omega),cF]) hn
 rw[hloop,bnd]
 have hq: ((List.range s.length).any λk=> !(isL (s.getD k 0)|| (!decide (k=0)&&isD (s.getD k 0))))= !(decide (s.length=0)|| (isL (s.getD 0 0)&&s.all λc=>isL c||isD c)):=by
  cases s with
  |nil=>rfl
  |cons c r=>
   rw[List.length_cons,List.range_succ_eq_map,List.any_cons,List.any_map]
   have h1: ((λk=> !(isL ((c::r).getD k 0)|| (!decide (k=0)&&isD ((c::r).getD k 0)))) ∘ Nat.succ)=λk=> !(isL (r.getD k 0)||isD (r.getD k 0)):=by
    funext k
    simp
   rw[h1,lA 0 (λc=> !(isL c||isD c)) r]
   have h2: (r.any λc=> !(isL c||isD c))= !(r.all λc=>isL c||isD c):=by rw[List.not_all_eq_any_not]
   rw[h2]
   cases h3:isL c<;>simp[h3]
 rw[hq]
 cases h4: (decide (s.length=0)|| (isL (s.getD 0 0)&&s.all λc=>isL c||isD c)) with
 |false=>
  rw[nF,cT]
  simp only[Bool.or_eq_false_iff] at h4
  simp only[nameS,Bool.and_assoc,h4.2,Bool.and_false]
 |true=>
  rw[nT,cF]
  by_cases h5:0<s.length
  ·rw[dT (by omega: (0:Int)<(s.length:Int)),cT]
   have h6:decide (s.length=0)=false:=dF (by omega)
   rw[h6,Bool.false_or] at h4
   simp only[nameS,Bool.and_assoc,h4,Bool.and_true,dT (show 1≤s.length from h5),Bool.true_and]
   congr 1
   rw[decide_eq_decide]
   omega
  ·rw[dF (by omega: ¬ (0:Int)<(s.length:Int)),cF]
   simp only[nameS,dF (show ¬1≤s.length from h5),Bool.false_and]
end Go.Proofs.YtkopljikappieaaGreatDoor
end
section
namespace Go.Proofs.YtkopljikappieaaGreatDoor
open Go Go.Vc
theorem lL {α β:Type} {step:Int→Option (Lp Int β)} (d:α) (xs:List α) (q:α→Bool) (b:Nat→β) (e:β)
 (hs: ∀k:Nat,k<xs.length→step (k:Int)=if q (xs.getD k d) then some (.br (b k)) else some (.nx ((k:Int)+1))) (he:step (xs.length:Int)=some (.br e)):
 ∀ (m k:Nat),k+m=xs.length→∀n,m<n→aE step n (k:Int)=some (match (xs.drop k).findIdx? q with|some i=>b (k+i)|none=>e)
 |0,k,hk,n,hn=>by
  obtain⟨n,rfl⟩: ∃r,n=r+1:=⟨n-1,by omega⟩
  have:k=xs.length:=by omega
  subst this
  simp[aE,he]
 |m+1,k,hk,n,hn=>by
  obtain⟨n,rfl⟩: ∃r,n=r+1:=⟨n-1,by omega⟩
  have hlt:k<xs.length:=by omega
  have h1:=hs k hlt
  have h2:xs.drop k=xs.getD k d::xs.drop (k+1):=by
   rw[List.drop_eq_getElem_cons hlt]
   simp[List.getD,hlt]
  rw[aE,h1,h2,List.findIdx?_cons]
  cases hq:q (xs.getD k d) with
  |true=>simp
  |false=>
   have ih:=lL d xs q b e hs he m (k+1) (by omega) n (by omega)
   have e1: (((k+1:Nat)):Int)=(k:Int)+1:=by omega
   rw[e1] at ih
   simp only[Bool.false_eq_true,if_false,Option.bind_some]
   rw[ih]
   cases (xs.drop (k+1)).findIdx? q with
   |none=>rfl
   |some i=>simp[Nat.add_assoc,Nat.add_comm 1 i]
theorem byteEq (c:UInt8) (z:Int) (m:UInt8) (hm:z=(m.toNat:Int)):decide ((c.toNat:Int)=z)=(c==m):=by
 rw[Bool.eq_iff_iff,decide_eq_true_iff,beq_iff_eq]
 rw[hm]
 constructor
 ·intro h
  exact UInt8.toNat_inj.1 (by omega)
 ·intro h
  rw[h]
theorem shut_ref {n k:Nat} {s:Bs} (hk:k≤s.length) (hn:s.length<n) (hs:s.length<1000000):
 iu n s (k:Int)=some (match (s.drop k).findIdx? (· ==125) with|some i=>((k+i:Nat):Int)|none=> -1):=by
 unfold iu
 rw[lL (step:=dU n s) 0 s (· ==125) (λi=>.inl ((i:Nat):Int)) (.inr ()) (λi hi=>by
  unfold dU
  rw[dT (by omega: (i:Int)<(s.length:Int)),cT,da 0 hi,bnd,byteEq _ 125 125 rfl]
  by_cases h: (s.getD i 0== (125:UInt8))=true
  ·rw[h,cT,if_pos rfl]
  ·rw[(by simpa using h: (s.getD i 0== (125:UInt8))=false),cF,if_neg (by decide),aW (by omega) (by omega)]) (by
  unfold dU
  rw[dF (by omega),cF]) (s.length-k) k (by omega) n (by omega),bnd]
 cases (s.drop k).findIdx? (· ==125)<;>rfl
theorem dot_ref {n:Nat} {s:Bs} (hn:s.length<n) (hs:s.length<1000000):
 ij n s=some (match s.findIdx? (· ==46) with|some i=>((i:Nat):Int)|none=> -1):=by
 unfold ij
 have:=lL (step:=eB n s) 0 s (· ==46) (λi=>.inl ((i:Nat):Int)) (.inr ()) (λi hi=>by
  unfold eB
  rw[dT (by omega: (i:Int)<(s.length:Int)),cT,da 0 hi,bnd,byteEq _ 46 46 rfl]
  by_cases h: (s.getD i 0== (46:UInt8))=true
  ·rw[h,cT,if_pos rfl]
  ·rw[(by simpa using h: (s.getD i 0== (46:UInt8))=false),cF,if_neg (by decide),aW (by omega) (by omega)]) (by
  unfold eB
  rw[dF (by omega),cF]) s.length 0 (by omega) n (by omega)
 have e0: ((0:Nat):Int)=0:=rfl
 rw[e0,List.drop_zero] at this
 rw[this,bnd]
 cases s.findIdx? (· ==46) with
 |none=>rfl
 |some i=>simp
end Go.Proofs.YtkopljikappieaaGreatDoor
end
section
namespace Go.Proofs.YtkopljikappieaaGreatDoor
open Go Go.Vc
theorem oo (c:UInt8): ∀s:Bs,Lib.index s [c]=match s.findIdx? (· ==c) with|some i=>((i:Nat):Int)|none=> -1
 |[]=>by simp[Lib.index]
 |x::s=>by
  have ih:=oo c s
  rw[List.findIdx?_cons]
  by_cases h:x=c
  ·subst h
   simp[Lib.index]
  ·have h1: (x==c)=false:=by simpa using h
   have h2: ¬c=x:=λe=>h e.symm
   simp only[h1,Bool.false_eq_true,if_false]
   simp[Lib.index,h2,ih]
   cases s.findIdx? (· ==c)<;>simp
theorem cut_one (c:UInt8) (s:Bs):Lib.cut s [c]=match s.findIdx? (· ==c) with|some i=>(s.take i,s.drop (i+1),true)|none=>(s,[],false):=by
 unfold Lib.cut
 rw[oo]
 cases s.findIdx? (· ==c) with
 |none=>rfl
 |some i=>
  show(if 0≤((i:Nat):Int) then _ else _)=_
  rw[if_pos (by omega)]
  simp
theorem hole_cut {n:Nat} {s:Bs} (c:UInt8) (hs:s.length<1000000):h_Cut n s [c]=some (match s.findIdx? (· ==c) with|some i=>(s.take i,s.drop (i+1),true)|none=>(s,[],false)):=by
 unfold h_Cut
 rw[aX (by omega),cut_one]
end Go.Proofs.YtkopljikappieaaGreatDoor
end
section
namespace Go.Proofs.YtkopljikappieaaGreatDoor
open Go Go.Vc
def attrS (s:Bs):Bool:=match s.findIdx? (· ==46) with
 |some i=>decide (s.take i=[79,117,116,112,117,116,115])&&nameS (s.drop (i+1))
 |none=>nameS s
theorem attr_ref {n:Nat} {s:Bs} (hn:s.length<n) (hs:s.length<1000000):ga n s=some (attrS s):=by
 unfold ga attrS
 rw[dot_ref hn hs,bnd]
 cases h:s.findIdx? (· ==46) with
 |none=>
  show(bif decide ((-1:Int)<0) then _ else _)=some (nameS s)
  rw[dT (by omega),cT,jU hn hs,bnd]
 |some i=>
  have hi:i<s.length:=by
   obtain⟨h1,_⟩:=List.findIdx?_eq_some_iff_getElem.1 h
   exact h1
  show(bif decide (((i:Nat):Int)<0) then _ else _)=some (decide (s.take i=[79,117,116,112,117,116,115])&&nameS (s.drop (i+1)))
  dsimp only
  rw[dF (by omega),cF,aX (by omega)]
  rw[Int.toNat_natCast]
  by_cases h2:s.take i=[79,117,116,112,117,116,115]
  ·rw[dT h2,cT,aW (by omega) (by omega),aX (by omega)]
   have e: ((i:Nat):Int)+1=((i+1:Nat):Int):=by omega
   rw[e,Int.toNat_natCast,jU (by rw[List.length_drop];omega) (by rw[List.length_drop];omega),bnd,Bool.true_and]
  ·rw[dF h2,cF,Bool.false_and]
theorem nameS_dot {s:Bs} (h: (46:UInt8)∈s):nameS s=false:=by
 have: (s.all λc=>isL c||isD c)=false:=by
  rw[List.all_eq_false]
  exact⟨46,h,by decide⟩
 simp only[nameS,this,Bool.and_false]
end Go.Proofs.YtkopljikappieaaGreatDoor
end
section
namespace Go.Proofs.YtkopljikappieaaGreatDoor
open Go Go.Vc
theorem attr_sub {n:Nat} {s:Bs} (hn:s.length<n) (hs:s.length<1000000):jd n s=some (attrS s):=by
 unfold jd jP
 rw[bnd]
 dsimp only
 cases hp:Lib.hasPrefix s [79,117,116,112,117,116,115,46] with
 |true=>
  obtain⟨r,rfl⟩:=List.isPrefixOf_iff_prefix.1 hp
  rw[cT]
  have e:Lib.trimPrefix ([79,117,116,112,117,116,115,46]++r) [79,117,116,112,117,116,115,46]=r:=by
   unfold Lib.trimPrefix
   rw[if_pos hp]
   rfl
  rw[e,jV (by simp at hn;omega) (by simp at hs;omega),bnd]
  simp[attrS,List.findIdx?_cons]
 |false=>
  rw[cF,jV hn hs,bnd]
  congr 1
  unfold attrS
  cases h:s.findIdx? (· ==46) with
  |none=>rfl
  |some i=>
   obtain⟨hi,h1,_⟩:=List.findIdx?_eq_some_iff_getElem.1 h
   have h2:s[i]=46:=by simpa using h1
   rw[nameS_dot (by rw[←h2];exact List.getElem_mem hi)]
   have h3: ¬s.take i=[79,117,116,112,117,116,115]:=λh3=>by
    have h4:s=[79,117,116,112,117,116,115,46]++s.drop (i+1):=by
     conv=>lhs;rw[←List.take_append_drop i s,h3,List.drop_eq_getElem_cons hi,h2]
     rfl
    have h5:Lib.hasPrefix s [79,117,116,112,117,116,115,46]=true:=List.isPrefixOf_iff_prefix.2 ⟨_,h4.symm⟩
    rw[hp] at h5
    cases h5
   show false=(decide (s.take i=[79,117,116,112,117,116,115])&&nameS (s.drop (i+1)))
   rw[dF h3,Bool.false_and]
end Go.Proofs.YtkopljikappieaaGreatDoor
end
section
namespace Go.Proofs.YtkopljikappieaaGreatDoor
open Go Go.Vc
theorem wrS {n:Nat} {a b:Bs} (h:a.length+b.length≤100000000000):bG n a b=some ((b.length:Int),(),a++b):=by
 unfold bG bf bB
 rw[bnd,aX (by omega)]
theorem wrB {n:Nat} {a:Bs} (c:UInt8) (h:a.length≤100000000000):aV n a (c.toNat:Int)=some ((),a++[c]):=by
 unfold aV bf bB
 have hc:=c.toNat_lt
 rw[bnd,aX (by omega),aX (by omega)]
 congr 3
 simp
theorem tabB: ((List.range 256).all λy=>bAnd .u8 (y:Int) 63== ((y % 64:Nat):Int))=true:=by kernel_rfl
theorem tabC: ((List.range 64).all λy=>bOr .u8 128 (y:Int)== ((128+y:Nat):Int))=true:=by kernel_rfl
theorem tabD: ((List.range 32).all λy=>bOr .u8 192 (y:Int)== ((192+y:Nat):Int))=true:=by kernel_rfl
theorem tabE: ((List.range 16).all λy=>bOr .u8 224 (y:Int)== ((224+y:Nat):Int))=true:=by kernel_rfl
theorem tabF: ((List.range 8).all λy=>bOr .u8 240 (y:Int)== ((240+y:Nat):Int))=true:=by kernel_rfl
theorem shr_i32 (c k:Nat) (hk:k≤32):bShr .i32 (c:Int) (k:Int)=((c / 2 ^ k:Nat):Int):=by
 unfold bShr
 have:min ((k:Int).toNat) IntKind.i32.bits=k:=by
  show min _ 32=k
  omega
 rw[this,Int.fdiv_eq_ediv_of_nonneg _ (Int.pow_nonneg (by omega))]
 norm_cast
theorem wrap_u8 (c:Nat):IntKind.wrap .u8 (c:Int)=((c % 256:Nat):Int):=by
 simp[IntKind.wrap,IntKind.bits,IntKind.signed]
theorem lowB (c:Nat):bOr .u8 128 (bAnd .u8 (IntKind.wrap .u8 (c:Int)) 63)=((128+c % 64:Nat):Int):=by
 rw[wrap_u8]
 have h:=List.all_eq_true.1 tabB (c % 256) (List.mem_range.2 (by omega))
 rw[eq_of_beq h]
 have h:=List.all_eq_true.1 tabC (c % 256 % 64) (List.mem_range.2 (by omega))
 rw[eq_of_beq h]
 omega
theorem hdD (c:Nat) (h:c<32):bOr .u8 192 (IntKind.wrap .u8 (c:Int))=((192+c:Nat):Int):=by
 rw[wrap_u8,show c % 256=c by omega]
 exact eq_of_beq (List.all_eq_true.1 tabD c (List.mem_range.2 h))
theorem hdE (c:Nat) (h:c<16):bOr .u8 224 (IntKind.wrap .u8 (c:Int))=((224+c:Nat):Int):=by
 rw[wrap_u8,show c % 256=c by omega]
 exact eq_of_beq (List.all_eq_true.1 tabE c (List.mem_range.2 h))
theorem hdF (c:Nat) (h:c<8):bOr .u8 240 (IntKind.wrap .u8 (c:Int))=((240+c:Nat):Int):=by
 rw[wrap_u8,show c % 256=c by omega]
 exact eq_of_beq (List.all_eq_true.1 tabF c (List.mem_range.2 h))
theorem byt2 (x y z w:Int) (h1:x=z) (h2:y=w): [UInt8.ofNat x.toNat,UInt8.ofNat y.toNat]=List.map (λx:Int=>x.toNat.toUInt8) [z,w]:=by subst h1 h2;rfl
theorem byt3 (x y u z w v:Int) (h1:x=z) (h2:y=w) (h3:u=v): [UInt8.ofNat x.toNat,UInt8.ofNat y.toNat,UInt8.ofNat u.toNat]=List.map (λx:Int=>x.toNat.toUInt8) [z,w,v]:=by subst h1 h2 h3;rfl
theorem byt4 (x y u p z w v q:Int) (h1:x=z) (h2:y=w) (h3:u=v) (h4:p=q): [UInt8.ofNat x.toNat,UInt8.ofNat y.toNat,UInt8.ofNat u.toNat,UInt8.ofNat p.toNat]=List.map (λx:Int=>x.toNat.toUInt8) [z,w,v,q]:=by subst h1 h2 h3 h4;rfl
theorem appR {n:Nat} {a:Bs} {c:Nat} (hc:c≤1114111) (h:a.length≤100000000000):bW n a (c:Int)=some (a++Lib.encodeRune (c:Int)):=by
 unfold bW
 rw[aX (by simp[inR,IntKind.min,IntKind.max,IntKind.signed,IntKind.bits];omega)]
 unfold Lib.encodeRune
 by_cases h1:c≤127
 ·rw[dT (by omega: (c:Int)≤127),cT,wrap_u8,show c % 256=c by omega,aX (by omega),aX (by omega),Lib.encodeRuneZ_one (by omega) (by omega)]
  simp
 rw[dF (by omega: ¬ (c:Int)≤127),cF]
 unfold bI
 rw[aX (by simp[inR,IntKind.min,IntKind.max,IntKind.signed,IntKind.bits];omega)]
 have s6:bShr .i32 (c:Int) 6=((c / 64:Nat):Int):=shr_i32 c 6 (by omega)
 have s12:bShr .i32 (c:Int) 12=((c / 4096:Nat):Int):=shr_i32 c 12 (by omega)
 have s18:bShr .i32 (c:Int) 18=((c / 262144:Nat):Int):=shr_i32 c 18 (by omega)
 rw[s6,s12,s18,lowB c,lowB (c / 64),lowB (c / 4096)]
 by_cases h2:c≤2047
 ·rw[dT (by omega: (c:Int)≤2047),cT,hdD _ (by omega),aX (by omega),aX (by omega),aX (by omega),bnd,Lib.encodeRuneZ_two (by omega) (by omega)]
  exact congrArg some (congrArg (a++ ·) (byt2 _ _ _ _ (by omega) (by omega)))
 rw[dF (by omega: ¬ (c:Int)≤2047),cF]
 have e3:224+c / 4096<240→some (a++[UInt8.ofNat ((((224+c / 4096:Nat):Int)).toNat),UInt8.ofNat ((((128+c / 64 % 64:Nat):Int)).toNat),UInt8.ofNat ((((128+c % 64:Nat):Int)).toNat)])=some (a++List.map (λx=>x.toNat.toUInt8) [224+ (c:Int) / 4096,128+ (c:Int) / 64 % 64,128+ (c:Int) % 64]):=λ_=>by
  exact congrArg some (congrArg (a++ ·) (byt3 _ _ _ _ _ _ (by omega) (by omega) (by omega)))
 by_cases h3:c<55296
 ·rw[dT (by omega: (c:Int)<55296),cT,bnd,cT,hdE _ (by omega),aX (by omega),aX (by omega),aX (by omega),aX (by omega),bnd,Lib.encodeRuneZ_three (by omega)]
  exact e3 (by omega)
 rw[dF (by omega: ¬ (c:Int)<55296),cF]
 by_cases h4:57343<c
 ·rw[dT (by omega: (57343:Int)<c),cT,bnd]
  by_cases h5:c≤65535
  ·rw[dT (by omega: (c:Int)≤65535),cT,hdE _ (by omega),aX (by omega),aX (by omega),aX (by omega),aX (by omega),bnd,Lib.encodeRuneZ_three (by omega)]
   exact e3 (by omega)
  ·rw[dF (by omega: ¬ (c:Int)≤65535),cF,dT (by omega: (65535:Int)<c),cT,dT (by omega: (c:Int)≤1114111),bnd,cT,hdF _ (by omega),aX (by omega),aX (by omega),aX (by omega),aX (by omega),aX (by omega),bnd,Lib.encodeRuneZ_four (by omega) (by omega)]
   exact congrArg some (congrArg (a++ ·) (byt4 _ _ _ _ _ _ _ _ (by omega) (by omega) (by omega) (by omega)))
 ·rw[dF (by omega: ¬ (57343:Int)<c),cF,bnd,cF,dF (by omega: ¬ (65535:Int)<c),cF,bnd,cF,aX (by omega),bnd]
  have:Lib.encodeRuneZ (c:Int)=[239,191,189]:=by
   unfold Lib.encodeRuneZ
   rw[if_neg (by omega),if_neg (by omega),if_neg (by omega),if_neg (by omega)]
  rw[this]
  rfl
theorem wrR {n:Nat} {a:Bs} {c:Nat} (hc:c≤1114111) (h:a.length≤100000000000):be n a (c:Int)=some (((Lib.encodeRune (c:Int)).length:Int),(),a++Lib.encodeRune (c:Int)):=by
 unfold be bf bB
 have hl: (Lib.encodeRune (c:Int)).length≤4:=by
  unfold Lib.encodeRune Lib.encodeRuneZ
  repeat' split
  all_goals simp
 rw[bnd,appR hc h,bnd,List.length_append,aW (by omega) (by omega)]
 congr 2
 omega
end Go.Proofs.YtkopljikappieaaGreatDoor
end
section
namespace Go.Proofs.YtkopljikappieaaGreatDoor
open Go Go.Vc
def holeS (s:Bs):TH0×Bool:=match s.findIdx? (· ==46) with
 |some i=>(⟨4,[],0,s.take i,s.drop (i+1),[]⟩,nameS (s.take i)&&attrS (s.drop (i+1)))
 |none=>(⟨3,[],0,s,[],[]⟩,nameS s)
theorem hole_sub {n:Nat} {s:Bs} (hn:s.length<n) (hs:s.length<1000000):kb n s=some (holeS s):=by
 unfold kb holeS
 rw[hole_cut 46 hs,bnd]
 cases h:s.findIdx? (· ==46) with
 |none=>
  dsimp only
  rw[cF,jV hn hs,bnd]
 |some i=>
  dsimp only
  rw[cT,jV (by rw[List.length_take];omega) (by rw[List.length_take];omega),bnd]
  cases nameS (s.take i) with
  |true=>rw[cT,attr_sub (by rw[List.length_drop];omega) (by rw[List.length_drop];omega),bnd,bnd,Bool.true_and]
  |false=>rw[cF,bnd,Bool.false_and]
inductive It
 |tx (b:Bs)
 |ho (x:TH0)
def txE (b:Bs):TH0:=⟨0,b,0,[],[],[]⟩
def add (it:It) (k:Nat) (p:List It×Option Nat):List It×Option Nat:=(it::p.1,p.2.map (· +k))
def prs:Bs→List It×Option Nat
 |[]=>([],none)
 |c::r=>
  if c=36∧r.head?=some 123 then
   match (r.drop 1).findIdx? (· ==125) with
   |none=>([],some 0)
   |some i=>
    if ((r.drop 1).take i).head?=some 33 then add (.tx (36::123::((r.drop 1).take i).drop 1++[125])) (i+3) (prs (r.drop (i+2)))
    else if (holeS ((r.drop 1).take i)).2 then add (.ho (holeS ((r.drop 1).take i)).1) (i+3) (prs (r.drop (i+2)))
    else([],some 0)
  else add (.tx [c]) 1 (prs r)
 termination_by s=>s.length
 decreasing_by all_goals simp<;>omega
def fl (b:Bs):List TH0:=if b=[] then [] else [txE b]
def mrg:Bs→List It→List TH0
 |b,[]=>fl b
 |b,.tx a::r=>mrg (b++a) r
 |b,.ho x::r=>fl b++x::mrg [] r
def lexS (s:Bs):List TH0×Int×Int:=
 if Lib.validD s=true then
  if s.length≤4096 then match (prs s).2 with
   |some p=>([],(p:Int),130)
   |none=>(mrg [] (prs s).1,0,0)
  else([],0,3)
 else([],0,10)
theorem ll:prs []=([],none):=by rw[prs]
theorem kN {c:UInt8} {r:Bs} (h: ¬ (c=36∧r.head?=some 123)):prs (c::r)=add (.tx [c]) 1 (prs r):=by rw[prs,if_neg h]
theorem lj {r:Bs} (h:r.findIdx? (· ==125)=none):prs (36::123::r)=([],some 0):=by
 rw[prs,if_pos ⟨rfl,rfl⟩,List.drop_one,List.tail_cons,h]
theorem mA {r:Bs} {i:Nat} (h:r.findIdx? (· ==125)=some i) (h2: (r.take i).head?=some 33):prs (36::123::r)=add (.tx (36::123::(r.take i).drop 1++[125])) (i+3) (prs (r.drop (i+1))):=by
 rw[prs,if_pos ⟨rfl,rfl⟩,List.drop_one,List.tail_cons,h]
 dsimp only
 rw[if_pos h2]
 rfl
theorem lk {r:Bs} {i:Nat} (h:r.findIdx? (· ==125)=some i) (h2: (r.take i).head?≠some 33) (h3: (holeS (r.take i)).2=true):prs (36::123::r)=add (.ho (holeS (r.take i)).1) (i+3) (prs (r.drop (i+1))):=by
 rw[prs,if_pos ⟨rfl,rfl⟩,List.drop_one,List.tail_cons,h]
 dsimp only
 rw[if_neg h2,if_pos h3]
 rfl
theorem lm {r:Bs} {i:Nat} (h:r.findIdx? (· ==125)=some i) (h2: (r.take i).head?≠some 33) (h3: (holeS (r.take i)).2=false):prs (36::123::r)=([],some 0):=by
 rw[prs,if_pos ⟨rfl,rfl⟩,List.drop_one,List.tail_cons,h]
 dsimp only
 rw[if_neg h2,if_neg (by rw[h3];simp)]
end Go.Proofs.YtkopljikappieaaGreatDoor
end
section
namespace Go.Proofs.YtkopljikappieaaGreatDoor
open Go Go.Vc
theorem etaE (x:TH0): (⟨x.ab,x.aa,x.af,x.ak,x.al,x.fL⟩:TH0)=x:=by cases x;rfl
def isStart (s:Bs) (k:Nat):Bool:=decide (s.getD k 0=36∧(s.drop (k+1)).head?=some 123)
theorem start_ref {s:Bs} {k:Nat} (hk:k<s.length) (hs:s.length<1000000):
 ((aQ s (k:Int)).bind λcZ=>
   bif(!(decide (((cZ).toNat:Int)=36))) then
    (some ((true)))
   else
    aS (inR .i64 ((k:Int)+1))<|
    bif(decide ((s.length:Int)≤((k:Int)+1))) then
     (some ((true)))
    else
     aS (inR .i64 ((k:Int)+1))<|
     (aQ s ((k:Int)+1)).bind λgW=>
     some ((!(decide (((gW).toNat:Int)=123)))))=some (!isStart s k):=by
 unfold isStart
 rw[da 0 hk,bnd,byteEq _ 36 36 rfl]
 by_cases h:s.getD k 0=36
 ·rw[h,beq_self_eq_true,nT,cF,aW (by omega) (by omega)]
  by_cases h2:s.length≤k+1
  ·rw[dT (by omega),cT,List.drop_eq_nil_of_le h2]
   rfl
  ·have e: (k:Int)+1=((k+1:Nat):Int):=by omega
   rw[dF (by omega),cF,aW (by omega) (by omega),e,da 0 (by omega),bnd,byteEq _ 123 123 rfl]
   have e2: (s.drop (k+1)).head?=some (s.getD (k+1) 0):=by
    rw[List.head?_drop]
    simp[List.getD,show k+1<s.length by omega]
   rw[e2]
   congr 2
   rw[Bool.eq_iff_iff,beq_iff_eq,decide_eq_true_iff]
   simp
 ·rw[show(s.getD k 0== (36:UInt8))=false by simpa using h,nF,cT,dF (λh2=>h h2.1)]
  rfl
theorem kY {s:Bs} {k:Nat} (hk:k<s.length):s.drop k=s.getD k 0::s.drop (k+1):=by
 rw[List.drop_eq_getElem_cons hk]
 simp[List.getD,hk]
theorem start_shape {s:Bs} {k:Nat} (hk:k<s.length) (h:isStart s k=true):k+1<s.length∧s.drop k=36::123::s.drop (k+2):=by
 unfold isStart at h
 obtain⟨h1,h2⟩:=of_decide_eq_true h
 have h3:k+1<s.length:=by
  by_cases h3:k+1<s.length
  ·exact h3
  ·rw[List.drop_eq_nil_of_le (by omega)] at h2
   cases h2
 refine⟨h3,?_⟩
 rw[kY hk,h1,kY h3] at*
 simp only[List.head?_cons,Option.some.injEq] at h2
 rw[h2]
theorem prs_at {s:Bs} {k:Nat} (hk:k<s.length) (h:isStart s k=false):prs (s.drop k)=add (.tx [s.getD k 0]) 1 (prs (s.drop (k+1))):=by
 rw[kY hk,kN (of_decide_eq_false h)]
theorem ju {s:Bs} {k e:Nat}: (s.take (k+e)).drop k=(s.drop k).take e:=by
 rw[List.drop_take]
 congr 1
 omega
theorem ol {l:Bs} {i:Nat} (hi:l.findIdx? (· ==125)=some i): (l.take i).head?=some 33↔l.head?=some 33:=by
 cases l with
 |nil=>cases hi
 |cons c r=>
  cases i with
  |zero=>
   rw[List.findIdx?_cons] at hi
   have:c=125:=by
    by_cases h: (c==125)=true
    ·simpa using h
    ·rw[if_neg h] at hi
     cases h2:r.findIdx? (· ==125) with
     |none=>rw[h2] at hi;cases hi
     |some j=>rw[h2] at hi;simp at hi
   subst this
   simp
  |succ i=>simp
end Go.Proofs.YtkopljikappieaaGreatDoor
end
section
namespace Go.Proofs.YtkopljikappieaaGreatDoor
open Go Go.Vc
theorem lex1_eq {n:Nat} {b:Bs} {l:List TH0} (h:l.length<1000000):ik n b l=some ([],l++fl b):=by
 unfold ik dm cO cI fl
 rw[bnd]
 dsimp only
 by_cases h0:b=[]
 ·subst h0
  simp
 ·have:0<b.length:=List.length_pos_iff.2 h0
  rw[dT (by omega),cT,bnd,aX (by omega),da (txE []) (by simp),bnd,bnd,bnd,if_neg h0]
  simp[txE]
theorem fl_len (b:Bs): (fl b).length≤1:=by unfold fl;split<;>simp
theorem prs_app: ∀ (a r:Bs),(∀x∈a,x≠36)→prs (a++r)=(a.map (λx=>It.tx [x])++(prs r).1,(prs r).2.map (· +a.length))
 |[],r,_=>by simp
 |c::a,r,h=>by
  rw[List.cons_append,kN (λe=>h c (by simp) e.1),prs_app a r (λx hx=>h x (by simp[hx]))]
  unfold add
  simp only[List.map_cons,List.cons_append,Option.map_map,List.length_cons]
  refine congrArg (Prod.mk _) (congrFun (congrArg Option.map ?_) _)
  funext x
  simp only[Function.comp]
  omega
theorem mrg_app: ∀ (a b:Bs) (l:List It),mrg b (a.map (λx=>It.tx [x])++l)=mrg (b++a) l
 |[],b,l=>by simp
 |c::a,b,l=>by
  simp only[List.map_cons,List.cons_append,mrg]
  rw[mrg_app a (b++[c]) l]
  simp
def MacPost (s:Bs) (k:Nat) (out:List TH0) (text:Bs) (b:Sum (Int×Bs×Nat) (Int×Int×Bs×List TH0×Nat)):Prop:=
 match (prs (s.drop k)).2 with
 |some p=>(∃t z,b=.inl (((k+p:Nat):Int),t,z))∨∃t o z,b=.inr (2,((k+p:Nat):Int),t,o,z)
 |none=>(∃o t f z,b=.inr (0,f,t,o,z)∧o++fl t=out++mrg text (prs (s.drop k)).1∧t.length≤s.length∧o.length≤s.length)∨
  (∃o t f z,b=.inr (1,f,t,o,z)∧o++fl (t++[36])=out++mrg text (prs (s.drop k)).1∧t.length≤s.length∧o.length≤s.length)
theorem MacPost.of_add {s:Bs} {k j:Nat} {it:List It} {out out':List TH0} {text text':Bs} {b:Sum (Int×Bs×Nat) (Int×Int×Bs×List TH0×Nat)}
 (h:prs (s.drop k)=(it++(prs (s.drop (k+j))).1,(prs (s.drop (k+j))).2.map (· +j))) (hm: ∀l,out'++mrg text' l=out++mrg text (it++l)) (hp:MacPost s (k+j) out' text' b):MacPost s k out text b:=by
 unfold MacPost at hp ⊢
 rw[h]
 cases hq: (prs (s.drop (k+j))).2 with
 |some p=>
  rw[hq] at hp
  have e:k+j+p=k+ (p+j):=by omega
  dsimp only at hp
  rw[e] at hp
  exact hp
 |none=>
  rw[hq] at hp
  rcases hp with⟨o,t,f,z,h1,h2,h3⟩|⟨o,t,f,z,h1,h2,h3⟩
  ·exact .inl ⟨o,t,f,z,h1,by rw[h2,hm],h3⟩
  ·exact .inr ⟨o,t,f,z,h1,by rw[h2,hm],h3⟩
theorem oy {s:Bs} {k:Nat} {a t:Bs} (h:s.drop k=a++t) (ha: ∀x∈a,x≠36):prs (s.drop k)=(a.map (λx=>It.tx [x])++(prs (s.drop (k+a.length))).1,(prs (s.drop (k+a.length))).2.map (· +a.length)):=by
 have e:s.drop (k+a.length)=t:=by rw[←List.drop_drop,h,List.drop_left]
 rw[h,e]
 exact prs_app a t ha
def MacSt (s:Bs) (k i:Nat) (st:Int) (fr:Int):Prop:=
 (st=0∧i=k)∨(st=1∧i=k+1∧fr=(k:Int)∧k<s.length∧s.getD k 0=36)∨
 (st=2∧fr=(k:Int)∧k+2≤i∧s.drop k=36::123::s.drop (k+2)∧∀j,k+2≤j→j<i→s.getD j 0≠125)
theorem kW {s a t:Bs} {i j:Nat} (h:s.drop i=a++t) (h1:i≤j) (h2:j<i+a.length):s.getD j 0∈a:=by
 have e:s.getD j 0=(s.drop i).getD (j-i) 0:=by
  rw[Lib.getD_dropU]
  congr 1
  omega
 rw[e,h]
 have: (a++t).getD (j-i) 0=a[j-i]'(by omega):=by
  simp[List.getD,List.getElem?_append,show j-i<a.length by omega]
 rw[this]
 exact List.getElem_mem _
theorem findIdx_shut {s:Bs} {k i:Nat} (h: ∀j,k≤j→j<i→s.getD j 0≠125) (hki:k≤i) (hi:i<s.length) (hc:s.getD i 0=125): (s.drop k).findIdx? (· ==125)=some (i-k):=by
 rw[List.findIdx?_eq_some_iff_getElem]
 refine⟨by rw[List.length_drop];omega,?_,λj hj=>?_⟩
 ·rw[List.getElem_drop]
  have:s.getD i 0=s[k+ (i-k)]'(by omega):=by simp[List.getD,show k+ (i-k)=i by omega,hi]
  rw[←this,hc]
  rfl
 ·rw[List.getElem_drop]
  have h1:s.getD (k+j) 0=s[k+j]'(by omega):=by simp[List.getD,show k+j<s.length by omega]
  rw[←h1]
  have:=h (k+j) (by omega) (by omega)
  simpa using this
theorem shut_none {s:Bs} {k:Nat} (h: ∀j,k≤j→j<s.length→s.getD j 0≠125): (s.drop k).findIdx? (· ==125)=none:=by
 rw[List.findIdx?_eq_none_iff]
 intro x hx
 obtain⟨j,hj,rfl⟩:=List.mem_iff_getElem.1 hx
 rw[List.length_drop] at hj
 rw[List.getElem_drop]
 have h1:s.getD (k+j) 0=s[k+j]'(by omega):=by simp[List.getD,show k+j<s.length by omega]
 rw[←h1]
 have:=h (k+j) (by omega) (by omega)
 simpa using this
end Go.Proofs.YtkopljikappieaaGreatDoor
end
section
namespace Go.Proofs.YtkopljikappieaaGreatDoor
open Go Go.Vc
theorem gl {n:Nat} {s:Bs} (hs:s.length<100000) (hn:s.length<n): ∀ (m k i:Nat) (st fr:Int) (out:List TH0) (text:Bs),s.length≤i+m→i≤s.length→Lib.validD (s.drop i)=true→MacSt s k i st fr→text.length≤k→out.length≤k→∀q,m<q→
 ∃b,aE (iy n s) q (st,fr,out,text,i)=some b∧MacPost s k out text b
 |m,k,i,st,fr,out,text,hm,hi,hv,hst,ht,ho,q,hq=>by
  have hks:k≤i:=by rcases hst with⟨_,h⟩|⟨_,h,_⟩|⟨_,_,h,_⟩<;>omega
  obtain⟨q,rfl⟩: ∃r,q=r+1:=⟨q-1,by omega⟩
  rw[aE,iy]
  dsimp only
  by_cases hlt:i<s.length
  case neg=>
   rw[dF hlt,cF,bnd]
   refine⟨_,rfl,?_⟩
   have hie:i=s.length:=by omega
   unfold MacPost
   rcases hst with⟨rfl,rfl⟩|⟨rfl,h1,rfl,h2,h3⟩|⟨rfl,rfl,h1,h2,h3⟩
   ·rw[List.drop_eq_nil_of_le (by omega),ll]
    exact .inl ⟨out,text,fr,_,rfl,rfl,by omega,by omega⟩
   ·rw[kY h2,h3,List.drop_eq_nil_of_le (by omega),kN (by simp),ll]
    exact .inr ⟨out,text,_,_,rfl,rfl,by omega,by omega⟩
   ·rw[h2,lj (shut_none λj g1 g2=>h3 j g1 (by omega))]
    exact .inr ⟨text,out,_,rfl⟩
  obtain⟨m,rfl⟩: ∃r,m=r+1:=⟨m-1,by omega⟩
  have hne:s.drop i≠ []:=λe=>by
   have:=congrArg List.length e
   rw[List.length_drop] at this
   simp at this
   omega
  rw[dT hlt,cT,bnd]
  obtain⟨r,a,t,hd,hdec,ha0,hr,henc,hvt,ha36,ha125,hr36,hr123,hr125⟩: ∃ (r:Nat) (a t:Bs),s.drop i=a++t∧Lib.decodeL (s.drop i)=(r,a.length)∧a≠ []∧r≤1114111∧Lib.encodeRune (r:Int)=a∧Lib.validD t=true∧
   (r≠36→∀x∈a,x≠36)∧(r≠125→∀x∈a,x≠125)∧(r=36→a=[36])∧(a.head?=some 123→r=123)∧(r=125→a=[125]):=by
   rcases rune_at hne hv with⟨c,t,h1,h2,h3,h4⟩|⟨r,a,t,h1,h2,h3,h4,h5,h6,h7,h8⟩
   ·refine⟨c.toNat,[c],t,h1,h3,by simp,by omega,?_,h4,λh x hx=>?_,λh x hx=>?_,λh=>?_,λh=>?_,λh=>?_⟩
    ·unfold Lib.encodeRune
     rw[Lib.encodeRuneZ_one (by omega) (by omega)]
     simp
    ·simp at hx;subst hx;exact λe=>h (by rw[e];rfl)
    ·simp at hx;subst hx;exact λe=>h (by rw[e];rfl)
    ·exact congrArg (λy=>[y]) (UInt8.toNat_inj.1 h)
    ·simp at h;rw[h];rfl
    ·exact congrArg (λy=>[y]) (UInt8.toNat_inj.1 h)
   ·refine⟨r,a,t,h1,h2,h3,h6,h7,h8,λh x hx e=>?_,λh x hx e=>?_,λh=>by omega,λh=>?_,λh=>by omega⟩
    ·have:=h4 x hx;rw[e] at this;simp at this
    ·have:=h4 x hx;rw[e] at this;simp at this
    ·cases a with
     |nil=>simp at h
     |cons x a=>
      simp at h
      have:=h4 x (by simp)
      rw[h] at this;simp at this
  have hal:0<a.length:=List.length_pos_iff.2 ha0
  have hil:i+a.length≤s.length:=by
   have:=congrArg List.length hd
   rw[List.length_drop,List.length_append] at this
   omega
  have hvt':Lib.validD (s.drop (i+a.length))=true:=by rw[←List.drop_drop,hd,List.drop_left];exact hvt
  rw[hdec]
  dsimp only
  have c36: (decide ((r:Int)=36))=decide (r=36):=by rw[decide_eq_decide];omega
  have c123: (decide ((r:Int)=123))=decide (r=123):=by rw[decide_eq_decide];omega
  have c125: (decide ((r:Int)=125))=decide (r=125):=by rw[decide_eq_decide];omega
  rw[c36,c123,c125]
  have hw:be n text (r:Int)=some ((a.length:Int),(),text++a):=by
   have:=wrR (n:=n) (a:=text) (c:=r) hr (by omega)
   rw[henc] at this
   exact this
  have hw1:be n (text++[36]) (r:Int)=some ((a.length:Int),(),text++[36]++a):=by
   have:=wrR (n:=n) (a:=text++[36]) (c:=r) hr (by rw[List.length_append,List.length_singleton];omega)
   rw[henc] at this
   exact this
  have hwb:aV n text 36=some ((),text++[36]):=wrB (n:=n) (a:=text) 36 (by omega)
  rcases hst with⟨rfl,rfl⟩|⟨rfl,h1,rfl,h2,h3⟩|⟨rfl,rfl,h1,h2,h3⟩
  ·
   rw[dF (by omega: ¬ ((0:Int)=2)),cF,bnd,cF,cF,dF (by omega: ¬ ((0:Int)=1)),cF,bnd,cF]
   by_cases hr3:r=36
   ·have ea:=hr36 hr3
    rw[dT hr3,cT,cF,bnd]
    dsimp only
    refine gl hs hn m i (i+a.length) 1 (i:Int) out text (by omega) hil hvt' (.inr (.inl ⟨rfl,by rw[ea];rfl,rfl,hlt,?_⟩)) ht ho q (by omega)
    have:=kW hd (Nat.le_refl i) (by omega)
    rw[ea] at this
    simpa using this
   ·rw[dF hr3,cF,cF,hw,bnd,bnd]
    dsimp only
    obtain⟨b,g1,g2⟩:=gl hs hn m (i+a.length) (i+a.length) 0 fr out (text++a) (by omega) hil hvt' (.inl ⟨rfl,rfl⟩) (by rw[List.length_append];omega) (by omega) q (by omega)
    exact⟨b,g1,MacPost.of_add (oy hd (ha36 hr3)) (λl=>by rw[mrg_app]) g2⟩
  ·
   subst h1
   rw[dF (by omega: ¬ ((1:Int)=2)),cF,bnd,cF,cF,dT (rfl: (1:Int)=1),cT,bnd]
   have hk:s.drop k=36::s.drop (k+1):=by rw[kY h2,h3]
   by_cases hr1:r=123
   ·rw[dT hr1,cT,bnd]
    dsimp only
    have hlen:a=[123]:=by
     have:=henc
     rw[hr1] at this
     rw[←this]
     rfl
    refine gl hs hn m k (k+1+a.length) 2 (k:Int) out text (by omega) hil hvt' (.inr (.inr ⟨rfl,rfl,by omega,?_,λj g1 g2=>?_⟩)) ht ho q (by omega)
    ·rw[hk,hd,hlen]
     have:t=s.drop (k+2):=by
      rw[hlen] at hd
      rw[show k+2=k+1+1 by omega,←List.drop_drop,hd]
      rfl
     rw[this]
     rfl
    ·rw[hlen] at g2
     simp only[List.length_cons,List.length_nil] at g2
     omega
   ·rw[dF hr1,cF]
    have hnot: ¬ ((36:UInt8)=36∧(s.drop (k+1)).head?=some 123):=λh=>by
     rw[hd] at h
     cases a with
     |nil=>exact ha0 rfl
     |cons x a=>exact hr1 (hr123 (by simpa using h.2))
    have hpk:prs (s.drop k)=add (.tx [36]) 1 (prs (s.drop (k+1))):=by rw[hk,kN hnot]
    by_cases hr3:r=36
    ·have ea:=hr36 hr3
     rw[dT hr3,cT,cT,hwb,bnd,bnd]
     dsimp only
     obtain⟨b,g1,g2⟩:=gl hs hn m (k+1) (k+1+a.length) 1 ((k+1:Nat):Int) out (text++[36]) (by omega) hil hvt' (.inr (.inl ⟨rfl,by rw[ea];rfl,rfl,by omega,by
      have:=kW hd (Nat.le_refl (k+1)) (by omega)
      rw[ea] at this
      simpa using this⟩)) (by rw[List.length_append,List.length_singleton];omega) (by omega) q (by omega)
     exact⟨b,g1,MacPost.of_add (it:=[.tx [36]]) hpk (λl=>rfl) g2⟩
    ·rw[dF hr3,cF,cT,hwb,bnd]
     dsimp only
     rw[hw1,bnd,bnd]
     dsimp only
     obtain⟨b,g1,g2⟩:=gl hs hn m (k+1+a.length) (k+1+a.length) 0 (k:Int) out (text++[36]++a) (by omega) hil hvt' (.inl ⟨rfl,rfl⟩) (by simp only[List.length_append,List.length_singleton];omega) (by omega) q (by omega)
     refine⟨b,g1,MacPost.of_add (it:=[.tx [36]]) (j:=1) hpk (λl=>rfl) (MacPost.of_add (oy hd (ha36 hr3)) (λl=>by rw[mrg_app]) g2)⟩
  ·
   rw[dT (rfl: (2:Int)=2),cT,bnd]
   by_cases hr5:r=125
   ·have ea:=hr125 hr5
    have hil':i+1≤s.length:=by omega
    have hci:s.getD i 0=125:=by
     have:=kW hd (Nat.le_refl i) (by omega)
     rw[ea] at this
     simpa using this
    have hf:=findIdx_shut h3 h1 hlt hci
    have e2: (k:Int)+2=((k+2:Nat):Int):=by omega
    have ein: (s.take i).drop (k+2)=(s.drop (k+2)).take (i- (k+2)):=by
     have:=ju (s:=s) (k:=k+2) (e:=i- (k+2))
     rw[show k+2+ (i- (k+2))=i by omega] at this
     exact this
    have hinl: ((s.drop (k+2)).take (i- (k+2))).length=i- (k+2):=by rw[List.length_take,List.length_drop];omega
    have hnext:s.drop (k+ (i- (k+2)+3))=(s.drop (k+2)).drop (i- (k+2)+1):=by
     rw[List.drop_drop]
     congr 1
     omega
    have hki:k+ (i- (k+2)+3)=i+1:=by omega
    rw[dT hr5,cT,aW (by omega) (by omega),aX (by omega),e2,Int.toNat_natCast,Int.toNat_natCast,ein]
    unfold jQ
    rw[bnd]
    generalize hin: (s.drop (k+2)).take (i- (k+2))=inn at hinl ⊢
    have hal1:a.length=1:=by rw[ea];rfl
    rw[hal1] at hvt' ⊢
    cases hp:Lib.hasPrefix inn [33] with
    |true=>
     have h33:inn.head?=some 33:=by
      obtain⟨u,hu⟩:=List.isPrefixOf_iff_prefix.1 hp
      rw[←hu]
      rfl
     have hpos:0<inn.length:=by
      cases inn with
      |nil=>cases h33
      |cons x y=>simp
     have hdl: (inn.drop (1:Int).toNat).length=inn.length-1:=by
      rw[List.length_drop]
      rfl
     rw[cT,aX (by omega),aX (by simp only[List.length_cons,List.length_nil,hdl];omega),aX (by simp only[List.length_append,List.length_cons,List.length_nil,hdl];omega),wrS (by simp only[List.length_append,List.length_cons,List.length_nil,hdl];omega),bnd,bnd]
     dsimp only
     obtain⟨b,g1,g2⟩:=gl hs hn m (i+1) (i+1) 0 (k:Int) out (text++(([36,123]++inn.drop (1:Int).toNat)++[125])) (by omega) hil' hvt' (.inl ⟨rfl,rfl⟩) (by simp only[List.length_append,List.length_cons,List.length_nil,hdl];omega) (by omega) q (by omega)
     refine⟨b,g1,MacPost.of_add (it:=[.tx (36::123::inn.drop 1++[125])]) (j:=i- (k+2)+3) ?_ (λl=>rfl) (by rw[hki];exact g2)⟩
     rw[h2,mA hf (by rw[hin];exact h33),hnext,hin]
     rfl
    |false=>
     have h33:inn.head?≠some 33:=λh=>by
      cases inn with
      |nil=>cases h
      |cons x y=>
       simp at h
       subst h
       simp[Lib.hasPrefix] at hp
     rw[cF,hole_sub (by omega) (by omega),bnd]
     cases hh: (holeS inn).2 with
     |false=>
      rw[cF,bnd]
      refine⟨_,rfl,?_⟩
      unfold MacPost
      rw[h2,lm hf (by rw[hin];exact h33) (by rw[hin];exact hh)]
      exact .inl ⟨text,i+1,rfl⟩
     |true=>
      have hfl:=fl_len text
      have hol: (out++fl text).length≤k+1:=by rw[List.length_append];omega
      rw[cT,lex1_eq (by omega),bnd]
      dsimp only
      rw[aX (by omega),da (txE []) (by simp),bnd,bnd,bnd]
      dsimp only
      have hset: ((out++fl text)++[(⟨(0:Int),([]:Bs),(0:Int),([]:Bs),([]:Bs),([]:List TH0)⟩:TH0)]).set (((out++fl text).length:Nat):Int).toNat (holeS inn).1=(out++fl text)++[(holeS inn).1]:=by
       rw[Int.toNat_natCast]
       simp
      rw[hset]
      obtain⟨b,g1,g2⟩:=gl hs hn m (i+1) (i+1) 0 (k:Int) ((out++fl text)++[(holeS inn).1]) [] (by omega) hil' hvt' (.inl ⟨rfl,rfl⟩) (by simp) (by rw[List.length_append,List.length_singleton];omega) q (by omega)
      refine⟨b,g1,MacPost.of_add (it:=[.ho (holeS inn).1]) (j:=i- (k+2)+3) ?_ (λl=>by show(out++fl text++[(holeS inn).1])++mrg [] l=out++(fl text++(holeS inn).1::mrg [] l);simp only[List.append_assoc,List.cons_append,List.nil_append]) (by rw[hki];exact g2)⟩
      rw[h2,lk hf (by rw[hin];exact h33) (by rw[hin];exact hh),hnext,hin]
      rfl
   ·rw[dF hr5,cF,cT,bnd]
    dsimp only
    refine gl hs hn m k (i+a.length) 2 (k:Int) out text (by omega) hil hvt' (.inr (.inr ⟨rfl,rfl,by omega,h2,λj g1 g2=>?_⟩)) ht ho q (by omega)
    by_cases hj:j<i
    ·exact h3 j g1 hj
    ·exact ha125 hr5 _ (kW hd (by omega) g2)
theorem lex_sub {n:Nat} {s:Bs} (hs:s.length<100000) (hn:s.length+5<n):lw n s=some (lexS s):=by
 unfold lw lexS cR eI
 rw[aX (by omega),bnd,bnd]
 cases hv:Lib.validD s with
 |false=>rfl
 |true=>
  rw[nT,cF,if_pos rfl]
  by_cases h:s.length≤4096
  ·rw[dF (by omega),cF,if_pos h]
   obtain⟨b,h1,h2⟩:=gl (n:=n) hs (by omega) s.length 0 0 0 0 [] [] (by omega) (by omega) (by rw[List.drop_zero];exact hv) (.inl ⟨rfl,rfl⟩) (by simp) (by simp) n (by omega)
   rw[h1,bnd]
   unfold MacPost at h2
   rw[List.drop_zero] at h2
   cases hp: (prs s).2 with
   |some p=>
    rw[hp] at h2
    dsimp only at h2 ⊢
    rw[Nat.zero_add] at h2
    rcases h2 with⟨t,z,rfl⟩|⟨t,o,z,rfl⟩
    ·rfl
    ·dsimp only
     rw[dT (by omega),cT,mpS,bnd,jB]
   |none=>
    rw[hp] at h2
    dsimp only at h2 ⊢
    rw[List.nil_append] at h2
    rcases h2 with⟨o,t,f,z,rfl,h3,h4,h5⟩|⟨o,t,f,z,rfl,h3,h4,h5⟩
    ·dsimp only
     rw[dF (by omega),cF,dF (by omega),cF,bnd,jN,lex1_eq (by omega),bnd,h3]
    ·dsimp only
     have hwb:aV n t 36=some ((),t++[36]):=wrB (n:=n) (a:=t) 36 (by omega)
     rw[dF (by omega),cF,dT rfl,cT,hwb,bnd,bnd,jN,lex1_eq (by omega),bnd,h3]
  ·rw[dT (by omega),cT,if_neg h]
end Go.Proofs.YtkopljikappieaaGreatDoor
end
section
namespace Go.Proofs.YtkopljikappieaaGreatDoor
open Go Go.Vc
end Go.Proofs.YtkopljikappieaaGreatDoor
end
section
namespace Go.Proofs.YtkopljikappieaaGreatDoor
open Go Go.Vc
theorem hole_ref {n:Nat} {s:Bs} (hn:s.length<n) (hs:s.length<1000000):ir n s=some (holeS s):=by
 unfold ir holeS
 rw[dot_ref hn hs,bnd]
 cases h:s.findIdx? (· ==46) with
 |none=>
  show(bif decide ((-1:Int)<0) then _ else _)=some (_,nameS s)
  rw[dT (by omega),cT,jU hn hs,bnd]
 |some i=>
  have hi:i<s.length:=(List.findIdx?_eq_some_iff_getElem.1 h).1
  dsimp only
  have e: ((i:Nat):Int)+1=((i+1:Nat):Int):=by omega
  rw[dF (by omega),cF,aX (by omega),aW (by omega) (by omega),aX (by omega),aX (by omega),Int.toNat_natCast,jU (by rw[List.length_take];omega) (by rw[List.length_take];omega),bnd]
  cases nameS (s.take i) with
  |true=>rw[cT,aW (by omega) (by omega),aX (by omega),e,Int.toNat_natCast,attr_ref (by rw[List.length_drop];omega) (by rw[List.length_drop];omega),bnd,Bool.true_and]
  |false=>rw[cF,e,Int.toNat_natCast,Bool.false_and]
def RefPost (s:Bs) (k:Nat) (out:List TH0) (text:Bs) (b:Sum Int (List TH0×Bs)):Prop:=
 match (prs (s.drop k)).2 with
 |some p=>b=.inl (((k+p:Nat):Int))
 |none=>∃o t,b=.inr (o,t)∧o++fl t=out++mrg text (prs (s.drop k)).1∧t.length≤s.length∧o.length≤s.length
theorem RefPost.of_add {s:Bs} {k j:Nat} {it:It} {out out':List TH0} {text text':Bs} {b:Sum Int (List TH0×Bs)}
 (h:prs (s.drop k)=add it j (prs (s.drop (k+j)))) (hm: ∀l,out'++mrg text' l=out++mrg text (it::l)) (hp:RefPost s (k+j) out' text' b):RefPost s k out text b:=by
 unfold RefPost at hp ⊢
 rw[h]
 unfold add
 cases hq: (prs (s.drop (k+j))).2 with
 |some p=>
  rw[hq] at hp
  show b=_
  rw[hp]
  dsimp only
  congr 2
  omega
 |none=>
  rw[hq] at hp
  show ∃o t,_
  obtain⟨o,t,h1,h2,h3,h4⟩:=hp
  exact⟨o,t,h1,by rw[h2,hm],h3,h4⟩
theorem lu {n : Nat} {s : List UInt8} (hs : s.length < 100000) (hn : s.length < n) : ∀ (m k : Nat) (out : List TH0) (text : List UInt8), s.length ≤ k + m → k ≤ s.length → text.length ≤ k → out.length ≤ k → ∀ q, m < q →
  ∃ b, aE (gn n s) q (out, text, (k : Int)) = some b ∧ RefPost s k out text b
 | m, k, out, text, hm, hk, ht, ho, q, hq => by
  obtain ⟨q, rfl⟩ : ∃ r, q = r + 1 := ⟨q - 1, by omega⟩
  rw [aE, gn]
  by_cases hlt : k < s.length
  ·obtain ⟨m, rfl⟩ : ∃ r, m = r + 1 := ⟨m - 1, by omega⟩
   dsimp only
   rw [decide_eq_true (by omega : (k : Int) < (s.length : Int)), cT, start_ref hlt (by omega), bnd]
   cases hst : isStart s k with
   | false =>
    rw [Bool.not_false, cT, da 0 hlt, bnd, aX (by omega), aW (by omega) (by omega), bnd]
    have e : (k : Int) + 1 = ((k + 1 : Nat) : Int) := by omega
    dsimp only
    rw [e]
    obtain ⟨b, h1, h2⟩ := lu hs hn m (k + 1) out (text ++ [s.getD k 0]) (by omega) (by omega) (by rw [List.length_append, List.length_singleton]; omega) (by omega) q (by omega)
    exact ⟨b, h1, RefPost.of_add (prs_at hlt hst) (fun l => rfl) h2⟩
   | true =>
    obtain ⟨h1, h2⟩ := start_shape hlt hst
    have e : (k : Int) + 2 = ((k + 2 : Nat) : Int) := by omega
    rw [Bool.not_true, cF, aW (by omega) (by omega), e]
    have hsh := shut_ref (n := n) (k := k + 2) (s := s) (by omega) hn (by omega)
    cases hf : (s.drop (k + 2)).findIdx? (· == 125) with
    | none =>
     rw [hf] at hsh
     rw [hsh, bnd]
     dsimp only
     rw [decide_eq_true (by omega), cT, bnd]
     refine ⟨_, rfl, ?_⟩
     unfold RefPost
     rw [h2, lj hf]
     show _ = _
     simp
    | some i =>
     have hi : i < (s.drop (k + 2)).length := (List.findIdx?_eq_some_iff_getElem.1 hf).1
     rw [List.length_drop] at hi
     obtain ⟨E, hE⟩ : ∃ E, k + 2 + i = E := ⟨_, rfl⟩
     rw [hf] at hsh
     dsimp only at hsh
     rw [hE] at hsh
     rw [hsh, bnd]
     have e8 : (s.take E).drop (k + 2) = (s.drop (k + 2)).take i := by rw [← hE, ju]
     rw [decide_eq_false (by omega), cF, aW (by omega) (by omega), da 0 (by omega), bnd, byteEq _ 33 33 rfl]
     have e3 : ((E : Int) + 1) = ((k + (i + 3) : Nat) : Int) := by omega
     have e4 : s.drop (k + (i + 3)) = (s.drop (k + 2)).drop (i + 1) := by
      rw [List.drop_drop]
      congr 1
      omega
     have e5 : (s.drop (k + 2)).head? = some (s.getD (k + 2) 0) := by
      rw [List.head?_drop]
      simp [List.getD, show k + 2 < s.length by omega]
     by_cases h33 : s.getD (k + 2) 0 = 33
     ·have h33' : ((s.drop (k + 2)).take i).head? = some 33 := (ol hf).2 (by rw [e5, h33])
      rw [h33, beq_self_eq_true, cT, aX (by simp only [List.length_cons, List.length_nil]; omega), aW (by omega) (by omega), aW (by omega) (by omega), aX (by omega)]
      have e6 : (k : Int) + 3 = ((k + 3 : Nat) : Int) := by omega
      have e7 : (s.take (k + (i + 3))).drop (k + 3) = ((s.drop (k + 2)).take i).drop 1 ++ [125] := by
       have g := (List.findIdx?_eq_some_iff_getElem.1 hf).2.1
       have g2 : (s.drop (k + 2)).take (i + 1) = (s.drop (k + 2)).take i ++ [125] := by
        rw [List.take_add_one, List.getElem?_eq_getElem (by rw [List.length_drop]; omega)]
        simp only [beq_iff_eq] at g
        rw [g]
        rfl
       have hi0 : i ≠ 0 := fun h0 => by
        rw [h0] at h33'
        simp at h33'
       rw [show k + (i + 3) = (k + 2) + (i + 1) by omega, show k + 3 = (k + 2) + 1 by omega, ← List.drop_drop, ju, g2, List.drop_append_of_le_length (by rw [List.length_take, List.length_drop]; omega)]
      rw [e3, e6, Int.toNat_natCast, Int.toNat_natCast, e7]
      have hl7 : (((s.drop (k + 2)).take i).drop 1).length ≤ i - 1 := by
       rw [List.length_drop, List.length_take]
       omega
      have hi0 : i ≠ 0 := fun h0 => by
       rw [h0] at h33'
       simp at h33'
      rw [aX (by simp only [List.length_append, List.length_cons, List.length_nil]; omega), aW (by omega) (by omega), bnd]
      dsimp only
      obtain ⟨b, g1, g2⟩ := lu hs hn m (k + (i + 3)) out ((text ++ [36, 123]) ++ (((s.drop (k + 2)).take i).drop 1 ++ [125])) (by omega) (by omega) (by simp only [List.length_append, List.length_cons, List.length_nil]; omega) (by omega) q (by omega)
      refine ⟨b, g1, RefPost.of_add (it := .tx (36 :: 123 :: ((s.drop (k + 2)).take i).drop 1 ++ [125])) (by rw [h2, mA hf h33', e4]) (fun l => ?_) g2⟩
      simp [mrg]
     ·have h33' : ((s.drop (k + 2)).take i).head? ≠ some 33 := fun h => by
       have := (ol hf).1 h
       rw [e5] at this
       exact h33 (by simpa using this)
      rw [show (s.getD (k + 2) 0 == (33 : UInt8)) = false by simpa using h33, cF, aW (by omega) (by omega), aX (by omega), Int.toNat_natCast, Int.toNat_natCast, e8, hole_ref (by rw [List.length_take, List.length_drop]; omega) (by rw [List.length_take, List.length_drop]; omega), bnd]
      cases hh : (holeS ((s.drop (k + 2)).take i)).2 with
      | false =>
       rw [Bool.not_false, cT, bnd]
       refine ⟨_, rfl, ?_⟩
       unfold RefPost
       rw [h2, lm hf h33' hh]
       show _ = _
       simp
      | true =>
       rw [Bool.not_true, cF]
       have hfl : ((bif (decide ((0 : Int) < ((text.length : Nat) : Int))) then
         (aS ((out.length + 1) * 88 ≤ 140737488355328) <|
         some ((out ++ [(⟨(0 : Int), text, (0 : Int), ([] : List UInt8), ([] : List UInt8), ([] : List TH0)⟩ : TH0)], ([] : List UInt8))))
        else
         some ((out, text)) : Option (List TH0 × List UInt8))) = some (out ++ fl text, []) := by
        unfold fl
        by_cases h0 : text = []
        ·subst h0
         simp
        ·have : 0 < text.length := List.length_pos_iff.2 h0
         rw [decide_eq_true (by omega), cT, aX (by omega), if_neg h0]
         rfl
       rw [hfl, bnd]
       dsimp only
       have hfl2 : (fl text).length ≤ 1 := by unfold fl; split <;> simp
       rw [aX (by rw [List.length_append]; omega), aW (by omega) (by omega), bnd, e3, etaE]
       dsimp only
       obtain ⟨b, g1, g2⟩ := lu hs hn m (k + (i + 3)) ((out ++ fl text) ++ [(holeS ((s.drop (k + 2)).take i)).1]) [] (by omega) (by omega) (by simp) (by simp only [List.length_append, List.length_cons, List.length_nil]; omega) q (by omega)
       refine ⟨b, g1, RefPost.of_add (it := .ho (holeS ((s.drop (k + 2)).take i)).1) (by rw [h2, lk hf h33' hh, e4]) (fun l => ?_) g2⟩
       simp [mrg]
  ·dsimp only
   rw [decide_eq_false (by omega), cF, bnd]
   refine ⟨_, rfl, ?_⟩
   unfold RefPost
   rw [List.drop_eq_nil_of_le (by omega), ll]
   exact ⟨out, text, rfl, rfl, by omega, by omega⟩
theorem lex_ref {n:Nat} {s:Bs} (hs:s.length<100000) (hn:s.length+5<n):jb n s=some (lexS s):=by
 unfold jb lexS
 rw[kv (by omega) (by omega) (by omega),bnd]
 cases Lib.validD s with
 |false=>rfl
 |true=>
  rw[nT,cF,if_pos rfl]
  by_cases h:s.length≤4096
  ·rw[dF (by omega),cF,if_pos h]
   obtain⟨b,h1,h2⟩:=lu (n:=n) hs (by omega) s.length 0 [] [] (by omega) (by omega) (by simp) (by simp) n (by omega)
   rw[show((0:Nat):Int)=0 from rfl] at h1
   rw[h1,bnd]
   unfold RefPost at h2
   rw[List.drop_zero] at h2
   cases hp: (prs s).2 with
   |some p=>
    rw[hp] at h2
    dsimp only at h2
    subst h2
    dsimp only
    rw[Nat.zero_add]
   |none=>
    rw[hp] at h2
    obtain⟨o,t,rfl,h3,h4,h5⟩:=h2
    dsimp only
    rw[List.nil_append] at h3
    rw[←h3]
    unfold fl
    by_cases h0:t=[]
    ·subst h0
     simp
    ·have:0<t.length:=List.length_pos_iff.2 h0
     rw[dT (by omega),cT,aX (by omega),if_neg h0]
     rfl
  ·rw[dT (by omega),cT,if_neg h]
end Go.Proofs.YtkopljikappieaaGreatDoor
end
section
namespace Go.Proofs.YtkopljikappieaaGreatDoor
open Go Go.Vc
theorem idx_split (c:UInt8): ∀ {q:Bs} {i:Nat},q.findIdx? (· ==c)=some i→q=q.take i++c::q.drop (i+1)∧(∀x∈q.take i,x≠c)∧(q.take i).length=i
 |q,i,h=>by
  obtain⟨h1,h2,h3⟩:=List.findIdx?_eq_some_iff_getElem.1 h
  have h4:q[i]=c:=by simpa using h2
  refine⟨?_,λx hx e=>?_,by rw[List.length_take];omega⟩
  ·conv=>lhs;rw[←List.take_append_drop i q,List.drop_eq_getElem_cons h1,h4]
  ·obtain⟨j,hj,rfl⟩:=List.mem_iff_getElem.1 hx
   rw[List.length_take] at hj
   have:=h3 j (by omega)
   rw[List.getElem_take] at e
   rw[e] at this
   simp at this
theorem lV (c:UInt8) {a b:Bs} (h: ∀x∈a,x≠c): (a++c::b).findIdx? (· ==c)=some a.length:=by
 rw[List.findIdx?_eq_some_iff_getElem]
 refine⟨by simp,by simp,λj hj=>?_⟩
 have: (a++c::b)[j]'(by simp;omega)=a[j]:=by rw[List.getElem_append_left hj]
 rw[this]
 simpa using h _ (List.getElem_mem hj)
theorem prs_esc' {a b:Bs} (h: ∀x∈a,x≠125) (h2:a.head?=some 33):prs (36::123::(a++125::b))=add (.tx (36::123::a.drop 1++[125])) (a.length+3) (prs b):=by
 have:=mA (r:=a++125::b) (lV 125 h) (by rw[List.take_left];exact h2)
 rw[this,List.take_left]
 congr 2
 rw[←List.drop_drop,List.drop_left]
 rfl
theorem oz {a b:Bs} (h: ∀x∈a,x≠125) (h2:a.head?≠some 33) (h3: (holeS a).2=true):prs (36::123::(a++125::b))=add (.ho (holeS a).1) (a.length+3) (prs b):=by
 have:=lk (r:=a++125::b) (lV 125 h) (by rw[List.take_left];exact h2) (by rw[List.take_left];exact h3)
 rw[this,List.take_left]
 congr 2
 rw[←List.drop_drop,List.drop_left]
 rfl
theorem prs_cases (c:UInt8) (r:Bs): (¬ (c=36∧r.head?=some 123)∧prs (c::r)=add (.tx [c]) 1 (prs r))∨
 ∃q,c=36∧r=123::q∧((q.findIdx? (· ==125)=none∧prs (c::r)=([],some 0))∨∃a b,q=a++125::b∧(∀x∈a,x≠125)∧
  ((a.head?=some 33∧prs (c::r)=add (.tx (36::123::a.drop 1++[125])) (a.length+3) (prs b))∨
   (a.head?≠some 33∧(holeS a).2=true∧prs (c::r)=add (.ho (holeS a).1) (a.length+3) (prs b))∨
   (a.head?≠some 33∧(holeS a).2=false∧prs (c::r)=([],some 0)))):=by
 by_cases h:c=36∧r.head?=some 123
 · right
   obtain⟨rfl,h2⟩:=h
   cases r with
   |nil=>cases h2
   |cons y q=>
    simp only[List.head?_cons,Option.some.injEq] at h2
    subst h2
    refine⟨q,rfl,rfl,?_⟩
    cases hf:q.findIdx? (· ==125) with
    |none=>exact .inl ⟨rfl,lj hf⟩
    |some i=>
     right
     obtain⟨h3,h4,h5⟩:=idx_split 125 hf
     refine⟨q.take i,q.drop (i+1),h3,h4,?_⟩
     by_cases h6: (q.take i).head?=some 33
     · left
       refine⟨h6,?_⟩
       rw[mA hf h6,h5]
     · right
       cases h7: (holeS (q.take i)).2 with
       |true=>exact .inl ⟨h6,rfl,by rw[lk hf h6 h7,h5]⟩
       |false=>exact .inr ⟨h6,rfl,lm hf h6 h7⟩
 · exact .inl ⟨h,kN h⟩
theorem prs_ind {P:Bs→Prop} (nil:P []) (ch: ∀c r,¬ (c=36∧r.head?=some 123)→P r→P (c::r)) (bad: ∀q,q.findIdx? (· ==125)=none→P (36::123::q))
 (esc: ∀a b,(∀x∈a,x≠125)→a.head?=some 33→P b→P (36::123::(a++125::b)))
 (hole: ∀a b,(∀x∈a,x≠125)→a.head?≠some 33→(holeS a).2=true→P b→P (36::123::(a++125::b)))
 (none: ∀a b,(∀x∈a,x≠125)→a.head?≠some 33→(holeS a).2=false→P (36::123::(a++125::b))): ∀s,P s:=by
 have key: ∀ (m:Nat) (s:Bs),s.length≤m→P s:=by
  intro m
  induction m with
  |zero=>
   intro s hs
   cases s with
   |nil=>exact nil
   |cons c r=>simp at hs
  |succ m ih=>
   intro s hs
   cases s with
   |nil=>exact nil
   |cons c r=>
    rw[List.length_cons] at hs
    rcases prs_cases c r with⟨h1,_⟩|⟨q,rfl,rfl,⟨h1,_⟩|⟨a,b,rfl,h1,⟨h2,_⟩|⟨h2,h3,_⟩|⟨h2,h3,_⟩⟩⟩
    ·exact ch c r h1 (ih r (by omega))
    ·exact bad q h1
    ·exact esc a b h1 h2 (ih b (by simp only[List.length_cons,List.length_append] at hs;omega))
    ·exact hole a b h1 h2 h3 (ih b (by simp only[List.length_cons,List.length_append] at hs;omega))
    ·exact none a b h1 h2 h3
 exact λs=>key s.length s (Nat.le_refl _)
theorem oA {a b:Bs} (h: ∀x∈a,x≠125) (h2:a.head?≠some 33) (h3: (holeS a).2=false):prs (36::123::(a++125::b))=([],some 0):=
 lm (r:=a++125::b) (lV 125 h) (by rw[List.take_left];exact h2) (by rw[List.take_left];exact h3)
theorem prs_len (s:Bs): (prs s).1.length≤s.length:=by
 induction s using prs_ind with
 |nil=>simp[ll]
 |ch c r h ih=>rw[kN h];unfold add;simp only[List.length_cons];omega
 |bad q h=>rw[lj h];simp
 |esc a b h h2 ih=>rw[prs_esc' h h2];unfold add;simp only[List.length_cons,List.length_append];omega
 |hole a b h h2 h3 ih=>rw[oz h h2 h3];unfold add;simp only[List.length_cons,List.length_append];omega
 |none a b h h2 h3=>rw[oA h h2 h3];simp
theorem mrg_len: ∀ (l:List It) (b:Bs),(mrg b l).length≤2*l.length+1
 |[],b=>by unfold mrg;have:=fl_len b;simp;exact this
 |.tx a::r,b=>by rw[mrg];have:=mrg_len r (b++a);simp only[List.length_cons];omega
 |.ho x::r,b=>by
  rw[mrg]
  have:=mrg_len r []
  have:=fl_len b
  simp only[List.length_append,List.length_cons]
  omega
theorem lexS_len (s:Bs): (lexS s).1.length≤10000:=by
 unfold lexS
 split
 ·split
  ·rename_i h
   cases (prs s).2 with
   |some p=>simp
   |none=>
    have h1:=mrg_len (prs s).1 []
    have h2:=prs_len s
    dsimp only
    omega
  ·simp
 ·simp
def Flat (x:TH0):Prop:=x.fL=[]
theorem holeS_flat (s:Bs):Flat (holeS s).1:=by
 unfold holeS Flat
 split<;>rfl
def FlatIt:It→Prop
 |.tx _=>True
 |.ho x=>Flat x
theorem prs_flat (s:Bs): ∀i∈ (prs s).1,FlatIt i:=by
 induction s using prs_ind with
 |nil=>simp[ll]
 |ch c r h ih=>rw[kN h];exact List.forall_mem_cons.2 ⟨trivial,ih⟩
 |bad q h=>rw[lj h];simp
 |esc a b h h2 ih=>rw[prs_esc' h h2];exact List.forall_mem_cons.2 ⟨trivial,ih⟩
 |hole a b h h2 h3 ih=>rw[oz h h2 h3];exact List.forall_mem_cons.2 ⟨holeS_flat _,ih⟩
 |none a b h h2 h3=>rw[oA h h2 h3];simp
theorem fl_flat (b:Bs): ∀x∈fl b,Flat x:=by
 unfold fl
 split
 ·simp
 ·intro x hx
  simp at hx
  subst hx
  rfl
theorem ne: ∀ (l:List It) (b:Bs),(∀i∈l,FlatIt i)→∀x∈mrg b l,Flat x
 |[],b,_=>fl_flat b
 |.tx a::r,b,h=>by rw[mrg];exact ne r (b++a) λi hi=>h i (by simp[hi])
 |.ho y::r,b,h=>by
  rw[mrg]
  intro x hx
  rcases List.mem_append.1 hx with hx|hx
  ·exact fl_flat b x hx
  rcases List.mem_cons.1 hx with rfl|hx
  ·exact h (.ho x) (by simp)
  ·exact ne r [] (λi hi=>h i (by simp[hi])) x hx
theorem lexS_flat (s:Bs): ∀x∈ (lexS s).1,Flat x:=by
 unfold lexS
 split
 ·split
  ·cases (prs s).2 with
   |some p=>simp
   |none=>exact ne _ _ (prs_flat s)
  ·simp
 ·simp
end Go.Proofs.YtkopljikappieaaGreatDoor
end
section
namespace Go.Proofs.YtkopljikappieaaGreatDoor
open Go Go.Vc
def run:Bs→List It→List TH0×Bs
 |b,[]=>([],b)
 |b,.tx a::r=>run (b++a) r
 |b,.ho x::r=>(fl b++x::(run [] r).1,(run [] r).2)
def NoAdj:List TH0→Prop
 |[]=>True
 |[_]=>True
 |x::y::r=>¬ (x.ab=0∧y.ab=0)∧NoAdj (y::r)
theorem NoAdj.at: ∀ {l:List TH0} (k:Nat),NoAdj l→k+1<l.length→¬ ((l.getD k (txE [])).ab=0∧(l.getD (k+1) (txE [])).ab=0)
 |[],k,_,h=>by simp at h
 |[_],k,_,h=>by simp at h
 |x::y::r,0,h,_=>h.1
 |x::y::r,k+1,h,hk=>NoAdj.at (l:=y::r) k h.2 (by simpa using hk)
end Go.Proofs.YtkopljikappieaaGreatDoor
end
end
section
namespace Go.Vc
open Go Go.RowKit
variable {dd:List Deferred}
def RepMap {κ δ:Type} (M:Mem) (emb:δ→Dat):List (κ×δ)→List (κ×Value)→Prop
 |[],m=>m=[]
 |p::r,m=>∃cs m',m=(p.1,Value.agg cs.toArray)::m'∧Rep M (emb p.2) cs∧RepMap M emb r m'
section
variable {κ δ:Type} {M M':Mem} {emb:δ→Dat}
theorem RepMap.mono (h:M.le M'): ∀ {d:List (κ×δ)} {m:List (κ×Value)},RepMap M emb d m→RepMap M' emb d m
 |[],_,hr=>hr
 |p::r,m,⟨cs,m',h1,h2,h3⟩=>⟨cs,m',h1,Rep.mono h _ _ h2,RepMap.mono h h3⟩
theorem RepMap.nil:RepMap M emb ([]:List (κ×δ)) []:=rfl
variable [DecidableEq κ]
theorem RepMap.put {k:κ} {x:δ} {cs:Lv} (hx:Rep M (emb x) cs): ∀ {d:List (κ×δ)} {m:List (κ×Value)},RepMap M emb d m→RepMap M emb (ez d k x) (ez m k (.agg cs.toArray))
 |[],m,h=>by
  have:m=[]:=h
  subst this
  exact⟨cs,[],rfl,hx,rfl⟩
 |p::r,m,⟨c,m',h1,h2,h3⟩=>by
  subst h1
  unfold ez
  by_cases hk:p.1=k
  ·rw[if_pos hk,if_pos hk]
   exact⟨cs,m',rfl,hx,h3⟩
  ·rw[if_neg hk,if_neg hk]
   exact⟨c,_,rfl,h2,RepMap.put hx h3⟩
end
theorem Hp.fzObj {w0 w:World} {M:Mem} {H:List Ent} {b:Nat} {o:Obj} (h:Hp w0 M (.obj b o::H) w): ∃M',M.le M'∧Hp w0 M' H w∧M' b=some o:=
 ⟨_,h.freeze.1,h.freeze.2,by simp[Mem.add]⟩
section
variable {κ:Type} [DecidableEq κ] {P:Program} {ek:κ→Value} {w:World}
end
section
variable {α:Type}
end
section
variable {π σ β:Type}
variable {E:σ→Option (Lp σ β)} {Y:π→σ→Option (Lp σ β)} {m:List π} {seen:Array Nat} {s:σ} {b:β}
end
section
variable {κ V:Type} {ek:κ→Value} {ev:V→Value} {P:Program} {ops:Array Oper} {n:Nat} {Q:Exit→Act→World→Prop} {L:Fr} {a:Act} {w0 w:World} {M:Mem} {H:List Ent}
def KMapAt (M:Mem) (o:Option Nat) (ek:κ→Value) (ev:V→Value) (m:List (κ×V)):Prop:=(∃b,o=some b∧M b=some (jT ek ev m))∨(o=none∧m=[])
theorem KMapAt.mono {M M':Mem} (h:M.le M') {o:Option Nat} {m:List (κ×V)}:KMapAt M o ek ev m→KMapAt M' o ek ev m
 |.inl ⟨b,h1,h2⟩=>.inl ⟨b,h1,h _ _ h2⟩
 |.inr h1=>.inr h1
end
section
variable {P:Program} {w:World} {ρ:Operand→Value} {o:Oper}
end
section
variable {α:Type} {M:Mem} {sz:Nat} {f:α→Dat} {A:Oa} {cap:Nat} {xs:List α}
end
section
variable {α:Type} {P:Program} {ops:Array Oper} {n:Nat} {Q:Exit→Act→World→Prop} {L:Fr} {a:Act} {w0 w:World} {M:Mem} {H:List Ent} {sz:Nat} {f:α→Dat} {dd:List Deferred}
end
section
variable {P:Program} {w:World} {d:Nat} {xs ys:Array Value}
def FEq (P:Program) (d:Nat) (xs ys:Array Value) (w:World):List (TypeId×Nat)→List Bool→Prop
 |[],[]=>True
 |(t,o)::s,r::rs=>(∃a b,(part t xs o).run P w=.ok a w∧(part t ys o).run P w=.ok b w∧(Op.equalIn d t a b).run P w=.ok r w)∧FEq P d xs ys w s rs
 |_,_=>False
def fieldsAre:List Field→List (TypeId×Nat)→Bool
 |[],[]=>true
 |f::fs,(t,o)::s=>f.name != "_"&& (Nat.beq f.type t&& (Nat.beq f.offset o&&fieldsAre fs s))
 |_,_=>false
def andL:List Bool→Bool
 |[]=>true
 |[r]=>r
 |r::rs=>r&&andL rs
theorem andL_cons (r:Bool) (rs:List Bool):andL (r::rs)=(r&&andL rs):=by cases rs<;>simp[andL]
theorem FEq.run: ∀ {fs:List Field} {s:List (TypeId×Nat)} {rs:List Bool},fieldsAre fs s=true→FEq P d xs ys w s rs→(Op.eqFields d xs ys fs).run P w=.ok (andL rs) w
 |[],[],[],_,_=>by simp[Op.eqFields,andL]
 |f::fs,(t,o)::s,r::rs,h,⟨⟨a,b,ha,hb,hr⟩,h2⟩=>by
  simp only[fieldsAre,Bool.and_eq_true,bne_iff_ne] at h
  obtain⟨h1,h3,h4,h5⟩:=h
  have e1:=Nat.eq_of_beq_eq_true h3
  have e2:=Nat.eq_of_beq_eq_true h4
  subst e1;subst e2
  have ih:=FEq.run h5 h2
  rw[andL_cons]
  simp only[Op.eqFields,h1,ne_eq,not_false_eq_true,if_true,Sem.run_bind,ha,hb,hr,Result.andThen_ok]
  cases r
  ·simp
  ·simpa using ih
 |[],[],_::_,_,h=>h.elim
 |[],_::_,_,h,_=>by simp[fieldsAre] at h
 |_::_,[],_,h,_=>by simp[fieldsAre] at h
 |_::_,_::_,[],_,h=>h.elim
end
section
variable {κ V:Type} {P:Program} {w:World} {ek:κ→Value} {ev:V→Value}
end
section
variable {α:Type} {P:Program} {ops:Array Oper} {n:Nat} {Q:Exit→Act→World→Prop} {L:Fr} {a:Act} {w0 w:World} {M:Mem} {H:List Ent} {sz:Nat} {f:α→Dat} {dd:List Deferred}
end
end Go.Vc
end
section
namespace Go.Vc
open Go Go.RowKit
variable {dd:List Deferred}
def flawE (T:Nat) (x:Int×Bs):List PanicEntry:=[{v:=.iface T (.agg #[.int .i64 x.1,S x.2]),recovered:=false}]
def OkX {ρ:Type} (P:Program) (M:Mem) (f:FuncId) (args:Lv) (T:Nat) (r:Sum (Int×Bs) ρ) (Post:ρ→Mem→Value→Prop):Prop:=
 ∀M2,M.le M2→∀w0 H w,Hp w0 M2 H w→Calls P f args.toArray w λe w'=>match r with
  |.inl x=>∃M',M2.le M'∧Hp w0 M' H w'∧e=.panicked (flawE T x)
  |.inr y=>∃v,e=.returned v∧∃M',M2.le M'∧Hp w0 M' H w'∧Post y M' v
def OkXH {ρ:Type} (P:Program) (M:Mem) (E:List Ent) (f:FuncId) (args:Lv) (T:Nat) (r:Sum (Int×Bs) ρ) (Post:ρ→Mem→List Ent→Value→Prop):Prop:=
 ∀M2,M.le M2→∀w0 H w,Hp w0 M2 (E++H) w→Calls P f args.toArray w λe w'=>match r with
  |.inl x=>∃M',M2.le M'∧Hp w0 M' H w'∧e=.panicked (flawE T x)
  |.inr y=>∃v,e=.returned v∧∃M' E',M2.le M'∧Hp w0 M' (E'++H) w'∧Post y M' E' v
section
variable {ρ:Type} {P:Program} {M:Mem} {E:List Ent} {f:FuncId} {args:Lv} {T:Nat}
theorem OkX.ok {y:ρ} {Post:ρ→Mem→Value→Prop} (h:OkX P M f args T (.inr y) Post):Ok P M f args (Post y):=h
theorem OkXH.ok {y:ρ} {Post:ρ→Mem→List Ent→Value→Prop} (h:OkXH P M E f args T (.inr y) Post):OkH P M E f args (Post y):=h
end
section
variable {P:Program} {ops:Array Oper} {n:Nat} {Q:Exit→Act→World→Prop} {L:Fr} {a:Act} {w0 w:World} {M:Mem} {H:List Ent} {ρ:Type} {T:Nat}
theorem W_callP {o:Oper} {rest:List Oper} {f:FuncId} {args:Array Value} {R:List PanicEntry→World→Prop} (hf:Frm n L a dd) (hw:aN ops L o=some true) (hr:bb L o=true)
 (hx: (execOp (ev L) o).run P w=.ok (.enter f args) w) (hc:Calls P f args w λe w'=>∃ch,e=.panicked ch∧R ch w')
 (hk: ∀ch w',R ch w'→Q (.panic ch) a w'):wpList P ops Q (o::rest) a w:=by
 simp only[wpList]
 rw[hf.wanted hw]
 refine .inl ?_
 unfold Oper.wp
 rw[hf.exec hr,hx]
 refine hc.mono λe w' he=>?_
 obtain⟨v,rfl,hR⟩:=he
 exact hk v w' hR
theorem aR {o:Oper} {rest:List Oper} {f:FuncId} {args:Lv} {x:Int×Bs} {Post:ρ→Mem→Value→Prop} (hf:Frm n L a dd) (hp:Hp w0 M H w) (hc:OkX P M f args T (.inl x) Post) (hB:okO ops n L o=true) (hx: ∀w,(execOp (ev L) o).run P w=.ok (.enter f args.toArray) w)
 (hk: ∀M' w',M.le M'→Hp w0 M' H w'→Q (.panic (flawE T x)) a w'):wpList P ops Q (o::rest) a w:=by
 obtain⟨h1,h2,-,-⟩:=eJ hB
 refine W_callP (R:=λch w'=>ch=flawE T x∧∃M',M.le M'∧Hp w0 M' H w') hf h1 h2 (hx w) ((hc M (Mem.le_refl M) w0 H w hp).mono λe w' ⟨M',g1,g2,g3⟩=>⟨_,g3,rfl,M',g1,g2⟩) λch w' ⟨g1,M',g2,g3⟩=>?_
 subst g1
 exact hk M' w' g2 g3
theorem gi {o:Oper} {rest:List Oper} {f:FuncId} {args:Lv} {E:List Ent} {x:Int×Bs} {Post:ρ→Mem→List Ent→Value→Prop} (hf:Frm n L a dd) (hp:Hp w0 M (E++H) w) (hc:OkXH P M E f args T (.inl x) Post) (hB:okO ops n L o=true) (hx: ∀w,(execOp (ev L) o).run P w=.ok (.enter f args.toArray) w)
 (hk: ∀M' w',M.le M'→Hp w0 M' H w'→Q (.panic (flawE T x)) a w'):wpList P ops Q (o::rest) a w:=by
 obtain⟨h1,h2,-,-⟩:=eJ hB
 refine W_callP (R:=λch w'=>ch=flawE T x∧∃M',M.le M'∧Hp w0 M' H w') hf h1 h2 (hx w) ((hc M (Mem.le_refl M) w0 H w hp).mono λe w' ⟨M',g1,g2,g3⟩=>⟨_,g3,rfl,M',g1,g2⟩) λch w' ⟨g1,M',g2,g3⟩=>?_
 subst g1
 exact hk M' w' g2 g3
theorem W_panic {o:Oper} {rest:List Oper} {v:Value} (hf:Frm n L a dd) (hw:aN ops L o=some true) (hr:bb L o=true) (hx: (execOp (ev L) o).run P w=.halt (.panic v) w) (h:Q (.panic [{v,recovered:=false}]) a w):wpList P ops Q (o::rest) a w:=by
 simp only[wpList]
 rw[hf.wanted hw]
 refine .inl ?_
 unfold Oper.wp
 rw[hf.exec hr,hx]
 exact h
end
section
variable {P:Program} {Q:Exit→Act→World→Prop} {a:Act} {w:World} {ch:List PanicEntry} {fn:Func} {R:Ending→World→Prop} {n:Nat} {L:Fr}
theorem cr {K:Act→World→Prop} (h:Q (.panic ch) a w):Exit.then K Q (.panic ch) a w:=h
theorem nE {i:Nat} (h:Q (.panic ch) a w):Exit.inBlock i Q (.panic ch) a w:=h
theorem ba (hf:Frm n L a) (h:R (.panicked ch) w):bodyPost P fn R (.panic ch) a w:=⟨hf.defers,h⟩
end
end Go.Vc
namespace Go.Vc
open Go Go.RowKit
theorem Frm.sim {n:Nat} {L:Fr} {a a':Act} {dd:List Deferred} (hf:Frm n L a dd) (h1:a'.tmps.size=a.tmps.size) (h2:a'.defers=a.defers):Frm n [] a' dd:=
 ⟨h1.trans hf.size,h2.trans hf.defers,λt v h=>by cases h⟩
theorem M_p {n:Nat} {L:Fr} {a:Act} {dd:List Deferred} {Q:Exit→Act→World→Prop} {K:Act→World→Prop} {ch:List PanicEntry} {w:World} (hf:Frm n L a dd) (h: ∀a',Frm n [] a' dd→Q (.panic ch) a' w):mixQ Q K (.panic ch) a w:=
 λa' h1 h2=>h a' (hf.sim h1 h2)
end Go.Vc
namespace Go.Vc
open Go
def fnV:Option Nat→Value
 |some k=>.func (.func k) #[] #[]
 |none=>.nilFunc
end Go.Vc
end
section
namespace Go.Proofs.YtkopljikappieaaGreatDoor
open Go Go.Vc Go.RowKit
def ib (n:Nat):Option (List (Bs× (Option Nat))):=
 some (ez (ez (ez (ez (ez (ez ([]:List (Bs× (Option Nat))) [82,101,102] (some 75)) [71,101,116,65,116,116] (some 77)) [83,117,98] (some 80)) [73,102] (some 82)) [74,111,105,110] (some 83)) [83,101,108,101,99,116] (some 84))
theorem mu (n:Nat) (M:Mem) (r: (List (Bs× (Option Nat)))) (hF:ib n=some r):Ok Tryz.prog M 34 [] (λM' v=>∃ (b0:Nat),v=.map (some b0)∧M' b0=some (jT S fnV r)):=by
 unfold ib at hF
 intro M1 hM0 w0 H w p0
 refine Re 3 Tryz.func34 rfl λa0 f0=>RR (Ye f0 1 λ_ f=>RR (W_newmap S fnV f p0 kr kr rfl rfl rfl λo1 W1 N1 _ f=>Y24 (ek:=S) (ev:=fnV) (m:=([]:List (Bs× (Option Nat)))) (k:=[82,101,102]) (v:=(some 75)) (kt:=9) (et:=51) f N1 rfl (.inr rfl) (strKey kr) λW2 N2 _ f=>Y24 (ek:=S) (ev:=fnV) (m:=ez ([]:List (Bs× (Option Nat))) [82,101,102] (some 75)) (k:=[71,101,116,65,116,116]) (v:=(some 77)) (kt:=9) (et:=51) f N2 rfl (.inr rfl) (strKey kr) λW3 N3 _ f=>Y24 (ek:=S) (ev:=fnV) (m:=ez (ez ([]:List (Bs× (Option Nat))) [82,101,102] (some 75)) [71,101,116,65,116,116] (some 77)) (k:=[83,117,98]) (v:=(some 80)) (kt:=9) (et:=51) f N3 rfl (.inr rfl) (strKey kr) λW4 N4 _ f=>Y24 (ek:=S) (ev:=fnV) (m:=ez (ez (ez ([]:List (Bs× (Option Nat))) [82,101,102] (some 75)) [71,101,116,65,116,116] (some 77)) [83,117,98] (some 80)) (k:=[73,102]) (v:=(some 82)) (kt:=9) (et:=51) f N4 rfl (.inr rfl) (strKey kr) λW5 N5 _ f=>Y24 (ek:=S) (ev:=fnV) (m:=ez (ez (ez (ez ([]:List (Bs× (Option Nat))) [82,101,102] (some 75)) [71,101,116,65,116,116] (some 77)) [83,117,98] (some 80)) [73,102] (some 82)) (k:=[74,111,105,110]) (v:=(some 83)) (kt:=9) (et:=51) f N5 rfl (.inr rfl) (strKey kr) λW6 N6 _ f=>Y24 (ek:=S) (ev:=fnV) (m:=ez (ez (ez (ez (ez ([]:List (Bs× (Option Nat))) [82,101,102] (some 75)) [71,101,116,65,116,116] (some 77)) [83,117,98] (some 80)) [73,102] (some 82)) [74,111,105,110] (some 83)) (k:=[83,101,108,101,99,116]) (v:=(some 84)) (kt:=9) (et:=51) f N6 rfl (.inr rfl) (strKey kr) λW7 N7 _ f=>Ye f 2 λ_ f=>wp_ret ?_))
 obtain⟨V1,J1,N8,B1⟩:=N7.fzObj
 refine au f rfl (Lk 0 (.map (some o1))) ?_
 cases sI hF
 exact⟨_,rfl,V1,J1,N8,⟨o1,rfl,B1⟩⟩
def callL:List (Bs×Option Nat):=[([82,101,102],some 75),([71,101,116,65,116,116],some 77),([83,117,98],some 80),([73,102],some 82),([74,111,105,110],some 83),([83,101,108,101,99,116],some 84)]
theorem nX (n:Nat):ib n=some callL:=rfl
theorem callL_none {k:Bs} (h1: ¬k=[82,101,102]) (h2: ¬k=[71,101,116,65,116,116]) (h3: ¬k=[83,117,98]) (h4: ¬k=[73,102]) (h5: ¬k=[74,111,105,110]) (h6: ¬k=[83,101,108,101,99,116]):dz callL k=none:=by
 unfold callL
 simp only[dz,if_neg (Ne.symm h1),if_neg (Ne.symm h2),if_neg (Ne.symm h3),if_neg (Ne.symm h4),if_neg (Ne.symm h5),if_neg (Ne.symm h6)]
def h_fail (_:Nat) (e:Int) (at_:Bs):Option (Sum (Int×Bs) Unit):=some (.inl (e,at_))
theorem oh (n:Nat) (M:Mem) (e:Int) (at_:Bs) (r:Sum (Int×Bs) Unit) (hF:h_fail n e at_=some r):OkX Tryz.prog M 72 [iL e,S at_] 78 r (λ_=>λ_ v=>v=.tuple #[]):=by
 obtain rfl:=Option.some.inj hF
 intro M2 hM w0 H w p0
 refine Re 8 Tryz.func72 rfl (λa0 f0=>?_)
 refine aA ?_
 refine V_run f0 4 kr (λa1 f1=>?_)
 refine W_panic (v:=.iface 78 (.agg #[iL e,S at_])) f1 kr kr kr ?_
 exact ba f1 ⟨M2,Mem.le_refl _,p0,rfl⟩
def ml (n:Nat) (d0:Bool) (d1:Int) (d2:Bs):Option (Sum (Int×Bs) Unit):=
 bif !d0 then
  ((h_fail n d1 d2).bind λX1=>
  (match X1 with
  |.inl X2=>some (.inl X2)
  |.inr X3=>some (.inr ())))
 else
  some (.inr ())
theorem ke (n:Nat) (M:Mem) (d0:Bool) (d1:Int) (d2:Bs) (r:Sum (Int×Bs) Unit) (hF:ml n d0 d1 d2=some r):OkX Tryz.prog M 31 [bO d0,iL d1,S d2] 78 r (λr=>λ_ v=>v=.tuple #[]):=by
 unfold ml at hF
 intro M1 hM0 w0 H w p0
 refine Re 11 Tryz.func31 rfl λa0 f0=>RR (Ye f0 2 λ_ f=>RcF f hF (λB1 F1=>?_) λB1 F3=>?_)
 ·have U1: (d0)=false:=by simpa using B1
  refine aA (Y f 2 λ_ f=>?_)
  obtain⟨X1,l1,F2⟩:=bS F1
  rcases X1 with X2|X3
  ·refine aR f p0 (oh n _ d1 d2 (.inl X2) l1) kr (λ_=>by kernel_rfl) λV1 W1 J1 N1=>ba f ?_
   cases sI F2
   exact⟨V1,J1,N1,rfl⟩
  ·refine Y17 f p0 (OkX.ok (oh n _ d1 d2 (.inr X3) l1)) λ_ V2 W2 J2 N2 ej _ f=>?_
   obtain⟨rfl⟩:=ej
   refine ap rfl (dn f rfl ?_)
   cases sI F2
   exact⟨_,rfl,V2,J2,N2,rfl⟩
 ·have U2: (d0)=true:=by simpa using B1
  refine wp_skip (dn f rfl ?_)
  cases sI F3
  exact⟨_,rfl,M1,(mR _),p0,rfl⟩
end Go.Proofs.YtkopljikappieaaGreatDoor
end
section
namespace Go.Num
def dig (c:UInt8):Bool:=48≤c&&c≤57
def nd:Bs→Nat→Nat
 |[],k=>k
 |c::r,k=>if dig c then nd r (k+1) else k
def vl:Bs→Nat→Nat
 |[],v=>v
 |c::r,v=>if dig c then vl r (10*v+ (c.toNat-48)) else v
def neg (l:Bs):Bool:=decide (l.getD 0 0=45)
def fst (l:Bs):Nat:=if neg l then 1 else 0
def big:Nat:=9007199254740992
def scanL (l:Bs) (at_:Int):Int×Int×Int:=
 let f:=fst l
 let k:=nd (l.drop f) f
 let v:=vl (l.drop f) 0
 if l.getD f 0=48∧f+2≤k then(0,at_+ (f+1),20)
 else if k=f∨l.getD k 0=46∨l.getD k 0=101∨l.getD k 0=69 then(0,at_+k,20)
 else if big<v∨(neg l=true∧v=0) then(0,at_,20)
 else(if neg l then-(v:Int) else v,at_+k,0)
theorem oc (l:Bs) (k:Nat) (h:k<l.length):l.drop k=l.getD k 0::l.drop (k+1):=by
 rw[List.drop_eq_getElem_cons h];simp[List.getD,h]
theorem nd_stop (l:Bs) (k:Nat) (hd:dig (l.getD k 0)=false):nd (l.drop k) k=k:=by
 by_cases h:k<l.length
 ·rw[oc l k h];simp only[nd,hd];rfl
 ·rw[List.drop_eq_nil_of_le (by omega)];rfl
theorem vl_stop (l:Bs) (k v:Nat) (hd:dig (l.getD k 0)=false):vl (l.drop k) v=v:=by
 by_cases h:k<l.length
 ·rw[oc l k h];simp only[vl,hd];rfl
 ·rw[List.drop_eq_nil_of_le (by omega)];rfl
structure ScanI (l:Bs) (k:Nat) (v:Nat):Prop where
 ge:fst l≤k
 le:k≤l.length
 nd:nd (l.drop k) k=nd (l.drop (fst l)) (fst l)
 vl:vl (l.drop k) v=vl (l.drop (fst l)) 0
 zero:fst l+2≤k→l.getD (fst l) 0≠48
 one:fst l+1≤k→dig (l.getD (fst l) 0)=true
theorem ScanI.lt {l:Bs} {k v:Nat} (_:ScanI l k v) (hd:dig (l.getD k 0)=true):k<l.length:=by
 rcases Nat.lt_or_ge k l.length with h|h
 ·exact h
 ·have:l.getD k 0=0:=by simp[List.getD,List.getElem?_eq_none h]
  rw[this] at hd;simp[dig] at hd
theorem ScanI.stop {l:Bs} {k v:Nat} (h:ScanI l k v) (at_:Int) (hd:dig (l.getD k 0)=false):
 scanL l at_=if k=fst l∨l.getD k 0=46∨l.getD k 0=101∨l.getD k 0=69 then(0,at_+k,20)
  else if big<v∨(neg l=true∧v=0) then(0,at_,20)
  else(if neg l then-(v:Int) else v,at_+k,0):=by
 have h1:=h.nd
 rw[nd_stop l k hd] at h1
 have h2:=h.vl
 rw[vl_stop l k v hd] at h2
 unfold scanL
 simp only[]
 rw[←h1,←h2,if_neg]
 rintro⟨h3,h4⟩
 exact h.zero h4 h3
theorem byte_of {c:UInt8} {n:Int} (d:UInt8) (h: ((c.toNat:Nat):Int)=n) (hd: (d.toNat:Int)=n):c=d:=UInt8.toNat_inj.1 (by omega)
def fitsB (n:Int):Bool:=decide (-9007199254740992≤n∧n≤9007199254740992)
theorem fits_eq (n:Int): (decide ((-9007199254740992:Int)≤n)&&decide (n≤9007199254740992))=fitsB n:=by simp[fitsB]
theorem fits_eqR (n:Int): (decide ((-9007199254740992:Int)≤n)&&decide (n≤9007199254740992))=fitsB n:=by simp[fitsB]
section
variable {l:Bs} {k v:Nat} {n at_ sl:Int} (I:ScanI l k v) (hd:dig (l.getD k 0)=false)
include I hd
theorem ScanI.e1 (h: (k:Int)=(fst l:Int)∨(at_+ (k:Int)<sl∧(((l.getD k 0).toNat:Int)=46∨(((l.getD k 0).toNat:Int)=101∨((l.getD k 0).toNat:Int)=69)))):scanL l at_=(0,at_+k,20):=by
 rw[I.stop at_ hd,if_pos]
 rcases h with h|⟨_,h|h|h⟩
 ·exact .inl (by omega)
 ·exact .inr (.inl (byte_of 46 h rfl))
 ·exact .inr (.inr (.inl (byte_of 101 h rfl)))
 ·exact .inr (.inr (.inr (byte_of 69 h rfl)))
theorem ScanI.e2 (hno: ¬ (k=fst l∨l.getD k 0=46∨l.getD k 0=101∨l.getD k 0=69)) (h:9007199254740992<v∨(neg l=true∧v=0)):scanL l at_=(0,at_,20):=by
 rw[I.stop at_ hd,if_neg hno,if_pos (by unfold big;exact h)]
theorem ScanI.e3 (hno: ¬ (k=fst l∨l.getD k 0=46∨l.getD k 0=101∨l.getD k 0=69)) (h: ¬ (9007199254740992<v∨(neg l=true∧v=0))):scanL l at_=(if neg l then-(v:Int) else v,at_+k,0):=by
 rw[I.stop at_ hd,if_neg hno,if_neg (by unfold big;exact h)]
end
def dch (n:Nat):UInt8:=UInt8.ofNat (48+n % 10)
def digsF:Nat→Nat→Bs
 |0,_=>[]
 |f+1,n=>if n<10 then [dch n] else digsF f (n / 10)++[dch n]
def digs (n:Nat):Bs:=digsF (n+1) n
theorem mP: ∀ (f g n:Nat),n<f→n<g→digsF f n=digsF g n
 |0,_,n,h,_=>by omega
 |f+1,0,n,_,h=>by omega
 |f+1,g+1,n,h1,h2=>by
  simp only[digsF]
  split
  ·rfl
  ·rw[mP f g (n / 10) (by omega) (by omega)]
theorem kk {n:Nat} (h:n<10):digs n=[dch n]:=by unfold digs;simp only[digsF];rw[if_pos h]
theorem mz {n:Nat} (h: ¬n<10):digs n=digs (n / 10)++[dch n]:=by
 unfold digs
 rw[digsF,if_neg h,mP n (n / 10+1) (n / 10) (by omega) (by omega)]
theorem nZ (n:Nat): (dch n).toNat=48+n % 10:=by
 unfold dch;rw[UInt8.toNat_ofNat'];omega
theorem dch_int (n:Nat): (48+ (n:Int) % 10) % 256=((dch n).toNat:Int):=by rw[nZ];omega
theorem dch_mod (n:Nat):dch (n % 10)=dch n:=by unfold dch;rw[Nat.mod_mod]
theorem dch_small {n:Nat} (h:n<10): (48+ (n:Int)) % 256=((dch n).toNat:Int):=by rw[nZ];omega
theorem digs_len: ∀ (k n:Nat),n<10 ^ (k+1)→(digs n).length≤k+1
 |0,n,h=>by rw[kk (by omega)];simp
 |k+1,n,h=>by
  by_cases h10:n<10
  ·rw[kk h10];simp
  ·rw[mz h10]
   have:=digs_len k (n / 10) (by rw[Nat.pow_succ] at h;omega)
   simp;omega
theorem im {n:Nat} (h:n≤9007199254740992): (digs n).length≤16:=digs_len 15 n (by omega)
def text (n:Int):Bs×Int:=if fitsB n then(if n<0 then 45::digs (-n).toNat else digs n.toNat,0) else([],20)
theorem oe {n:Int}:fitsB n=true↔ -9007199254740992≤n∧n≤9007199254740992:=by simp[fitsB]
theorem text_no {n:Int} (h:fitsB n=false):text n=([],20):=by simp[text,h]
theorem text_neg {n:Int} (h:fitsB n=true) (h0:n<0):text n=(45::digs (-n).toNat,0):=by simp[text,h,h0]
theorem text_pos {n:Int} (h:fitsB n=true) (h0: ¬n<0):text n=(digs n.toNat,0):=by simp[text,h,h0]
end Go.Num
end
section
namespace Go.Proofs.YtkopljikappieaaGreatDoor
open Go Go.Vc Go.RowKit Go.Num
theorem fits_ok (M:Mem) (n:Int):Ok Tryz.prog M 136 [iL n] (λ_ v=>v=bO (fitsB n)):=by
 intro M hM0 w0 H w p0
 refine Re 9 Tryz.func136 rfl λa0 f0=>RR (Ye f0 1 λ_ f=>an (bD (λa_2 W1=>Frm 9 [(2,bO ((decide ((-9007199254740992:Int)≤n))&& (decide (n≤9007199254740992))))] a_2∧Hp w0 M (H) W1) ?_ ?_))
 ·refine aA (Y f 3 λ_ f=>?_)
  rcases bE (decide ((-9007199254740992:Int)≤n)) with B1|B1
  ·have U1:=dI.1 B1
   have f:=f.st 5 (cB B1)
   refine Ye f 4 λ_ f=>?_
   have f:=Frm.set f 2 (v:=.bool (decide (n≤9007199254740992))) (v':=.bool ((decide ((-9007199254740992:Int)≤n))&& (decide (n≤9007199254740992)))) (by kernel_rfl) (by simp only[B1,Bool.and_true,Bool.true_and,Bool.false_and,Bool.and_false,Bool.or_true,Bool.true_or,Bool.or_false,Bool.false_or,nT,nF,cond_true,cond_false])
   exact⟨f.kp,p0⟩
  ·have U2:=aq dI B1
   have f:=f.st 5 (cB B1)
   refine Ye f 4 λ_ f=>?_
   have f:=Frm.set f 2 (v:=.bool false) (v':=.bool ((decide ((-9007199254740992:Int)≤n))&& (decide (n≤9007199254740992)))) (by kernel_rfl) (by simp only[B1,Bool.and_true,Bool.true_and,Bool.false_and,Bool.and_false,Bool.or_true,Bool.true_or,Bool.or_false,Bool.false_or,nT,nF,cond_true,cond_false])
   exact⟨f.kp,p0⟩
 ·rintro a_2 W1 ⟨f,N1⟩
  refine aK (wp_ret (au f rfl (Lk 2 (bO ((decide ((-9007199254740992:Int)≤n))&& (decide (n≤9007199254740992))))) (⟨_,rfl,M,(mR _),N1,?_⟩)))
  exact cB (fits_eq _)
theorem fitsR_ok (M:Mem) (n:Int):Ok Tryz.prog M 126 [iL n] (λ_ v=>v=bO (fitsB n)):=by
 intro M hM0 w0 H w p0
 refine Re 9 Tryz.func126 rfl λa0 f0=>RR (Ye f0 1 λ_ f=>an (bD (λa_2 W1=>Frm 9 [(2,bO ((decide ((-9007199254740992:Int)≤n))&& (decide (n≤9007199254740992))))] a_2∧Hp w0 M (H) W1) ?_ ?_))
 ·refine aA (Y f 3 λ_ f=>?_)
  rcases bE (decide ((-9007199254740992:Int)≤n)) with B1|B1
  ·have U1:=dI.1 B1
   have f:=f.st 5 (cB B1)
   refine Ye f 4 λ_ f=>?_
   have f:=Frm.set f 2 (v:=.bool (decide (n≤9007199254740992))) (v':=.bool ((decide ((-9007199254740992:Int)≤n))&& (decide (n≤9007199254740992)))) (by kernel_rfl) (by simp only[B1,Bool.and_true,Bool.true_and,Bool.false_and,Bool.and_false,Bool.or_true,Bool.true_or,Bool.or_false,Bool.false_or,nT,nF,cond_true,cond_false])
   exact⟨f.kp,p0⟩
  ·have U2:=aq dI B1
   have f:=f.st 5 (cB B1)
   refine Ye f 4 λ_ f=>?_
   have f:=Frm.set f 2 (v:=.bool false) (v':=.bool ((decide ((-9007199254740992:Int)≤n))&& (decide (n≤9007199254740992)))) (by kernel_rfl) (by simp only[B1,Bool.and_true,Bool.true_and,Bool.false_and,Bool.and_false,Bool.or_true,Bool.true_or,Bool.or_false,Bool.false_or,nT,nF,cond_true,cond_false])
   exact⟨f.kp,p0⟩
 ·rintro a_2 W1 ⟨f,N1⟩
  refine aK (wp_ret (au f rfl (Lk 2 (bO ((decide ((-9007199254740992:Int)≤n))&& (decide (n≤9007199254740992))))) (⟨_,rfl,M,(mR _),N1,?_⟩)))
  exact cB (fits_eqR _)
theorem oD (M:Mem) (bp bo n:Nat): ∀ (hn:n≤9007199254740992) (v:Value) (k:Nat) (xs:Lv) (hk:k≤1000),OkH Tryz.prog M [oC bp #[.func (.func 137) #[] #[pP bp,pP bo]] 172,oC bo #[v] 140,Ent.row 5 1 v k xs] 137 [iL (n:Int),pP bp,pP bo] (λ_ E2 r=>r=.tuple #[]∧∃v2,E2=[oC bp #[.func (.func 137) #[] #[pP bp,pP bo]] 172,oC bo #[v2] 140,Ent.row 5 1 v2 (k+ (digs n).length) (xs++ci (digs n))]):=by
 induction n using Nat.strongRecOn generalizing M
 rename_i n ih
 intro hn v k xs hk
 have hl1:=im hn
 have hl2:=im (n:=n / 10) (by omega)
 intro M hM0 w0 H w p0
 refine Re 17 Tryz.func137 rfl λa0 f0=>an (RR (Ye f0 2 λ_ f=>Y7 f (b:=decide ((9:Int)<(n:Int))) (λB1=>?_) λB1=>?_))
 ·have U1:=dI.1 B1
  refine aA (Z f (Y31 (v:=.func (.func 137) #[] #[pP bp,pP bo]) rfl (ad:=⟨bp,0,none⟩) (p0.ownCell 0 rfl 0)) λ_ f=>Y f 1 λ_ f=>Y f 1 λ_ f=>?_)
  have f:=Frm.set f 8 (v:=iL (IntKind.wrap .i64 ((n:Int).tdiv 10))) (v':=iL ((n:Int) / 10)) kr (congrArg (Value.int .i64) (quo_i64 (by omega) (by decide) (by omega)))
  have f:=Frm.set f 8 (v:=iL ((n:Int) / 10)) (v':=iL ((n / 10:Nat):Int)) kr (congrArg (Value.int .i64) (by omega))
  refine Y18 (E:=[oC bp #[.func (.func 137) #[] #[pP bp,pP bo]] 172,oC bo #[v] 140,Ent.row 5 1 v k xs]) (H:=(H)) f p0 (ih (n / 10) (by omega) _ (by omega) v k xs hk) λv_1 V1 mo W1 J1 N1 ej _ f=>?_
  obtain⟨rfl,v2,rfl⟩:=ej
  have N2:Hp w0 M ((oC bp #[.func (.func 137) #[] #[pP bp,pP bo]] 172)::(oC bo #[v2] 140)::(Ent.row 5 1 v2 (k+ (digs (n / 10)).length) (xs++ci (digs (n / 10))))::H) W1:=N1.less J1
  refine eT (aA (Z f (Y31 (v:=v2) rfl (ad:=⟨bo,0,none⟩) (N2.ownCell 1 rfl 0)) λ_ f=>Y f 1 λ_ f=>Y f 1 λ_ f=>?_))
  have f:=Frm.set f 12 (v:=iL ((n:Int).tmod 10)) (v':=iL ((n:Int) % 10)) kr (congrArg (Value.int .i64) (rem_nn (by omega)))
  refine Y f 1 λ_ f=>?_
  have f:=Frm.set f 13 (v:=iL (IntKind.wrap .i64 ((48:Int)+ ((n:Int) % 10)))) (v':=iL ((48:Int)+ ((n:Int) % 10))) kr (congrArg (Value.int .i64) (IntWalk.i64_in _ (by omega)))
  refine Y f 1 λ_ f=>?_
  have f:=Frm.set f 14 (v:=.int .u8 (IntKind.wrap .u8 ((48:Int)+ ((n:Int) % 10)))) (v':=.int .u8 (((48:Int)+ ((n:Int) % 10)) % 256)) kr (congrArg (Value.int .u8) (IntKind.wrap_u8 _))
  have f:=Frm.set f 14 (v:=.int .u8 (((48:Int)+ ((n:Int) % 10)) % 256)) (v':=.int .u8 ((dch n).toNat:Int)) kr (congrArg (Value.int .u8) (dch_int n))
  refine aP (k:=1) (c:=1) f N2 (.cells #[.int .u8 ((dch n).toNat:Int)] 5 (0,0)) kr (λ_=>by kernel_rfl) λQ1 W2 N3 _ f=>?_
  have N4:=N3.pl [3]
  refine jD (d:=16) (t:=140) (e:=5) (z:=.int .u8 0) (v:=v2) (size:=1) (bytes:=1) (k:=k+ (digs (n / 10)).length) (m:=1) (c:=1) (xs:=xs++ci (digs (n / 10))) (news:=[.int .u8 ((dch n).toNat:Int)]) (ad:=⟨Q1,0,none⟩) f N4 kr kr rfl rfl rfl kr kr kr kr (rfl) (am (N4.ownCell 1 rfl) 0 rfl) (all_one kr) (by omega) (by omega) λv_2 W3 N5 _ f=>?_
  have N6:=N5.pl [1]
  have N7:=N6.drop
  refine Y26 f N7 2 rfl rfl (b:=bo) (j:=0) (v:=v_2) (row_one (N7.rowAt 0 rfl)) (by exact rfl) (by simp) (by simp) _ rfl λW4 N8 _ f=>ap rfl (dn f rfl ?_)
  have N9:Hp w0 M ((Ent.row 5 1 v_2 (k+ (digs n).length) (xs++ci (digs n)))::(oC bp #[.func (.func 137) #[] #[pP bp,pP bo]] 172)::(oC bo #[v_2] 140)::H) W4:=N8.rowEq (by rw[mz (n:=n) (by omega)];simp;omega) (by rw[mz (n:=n) (by omega),nH,List.append_assoc];rfl)
  have N11:=N9.pl [2,2]
  exact⟨_,rfl,M,[oC bp #[.func (.func 137) #[] #[pP bp,pP bo]] 172,oC bo #[v_2] 140,Ent.row 5 1 v_2 (k+ (digs n).length) (xs++ci (digs n))],mR _,N11,rfl,v_2,rfl⟩
 ·have U2:=aq dI B1
  refine St (aA (Z f (Y31 (v:=v) rfl (ad:=⟨bo,0,none⟩) (p0.ownCell 1 rfl 0)) λ_ f=>Y f 1 λ_ f=>Y f 1 λ_ f=>?_))
  have f:=Frm.set f 12 (v:=iL ((n:Int).tmod 10)) (v':=iL ((n:Int) % 10)) kr (congrArg (Value.int .i64) (rem_nn (by omega)))
  refine Y f 1 λ_ f=>?_
  have f:=Frm.set f 13 (v:=iL (IntKind.wrap .i64 ((48:Int)+ ((n:Int) % 10)))) (v':=iL ((48:Int)+ ((n:Int) % 10))) kr (congrArg (Value.int .i64) (IntWalk.i64_in _ (by omega)))
  refine Y f 1 λ_ f=>?_
  have f:=Frm.set f 14 (v:=.int .u8 (IntKind.wrap .u8 ((48:Int)+ ((n:Int) % 10)))) (v':=.int .u8 (((48:Int)+ ((n:Int) % 10)) % 256)) kr (congrArg (Value.int .u8) (IntKind.wrap_u8 _))
  have f:=Frm.set f 14 (v:=.int .u8 (((48:Int)+ ((n:Int) % 10)) % 256)) (v':=.int .u8 ((dch n).toNat:Int)) kr (congrArg (Value.int .u8) (dch_int n))
  refine aP (k:=1) (c:=1) f p0 (.cells #[.int .u8 ((dch n).toNat:Int)] 5 (0,0)) kr (λ_=>by kernel_rfl) λQ2 W5 N12 _ f=>?_
  have N13:=N12.pl [3]
  refine jD (d:=16) (t:=140) (e:=5) (z:=.int .u8 0) (v:=v) (size:=1) (bytes:=1) (k:=k) (m:=1) (c:=1) (xs:=xs) (news:=[.int .u8 ((dch n).toNat:Int)]) (ad:=⟨Q2,0,none⟩) f N13 kr kr rfl rfl rfl kr kr kr kr (rfl) (am (N13.ownCell 1 rfl) 0 rfl) (all_one kr) (by omega) (by omega) λv_3 W6 N14 _ f=>?_
  have N15:=N14.pl [1]
  have N16:=N15.drop
  refine Y26 f N16 2 rfl rfl (b:=bo) (j:=0) (v:=v_3) (row_one (N16.rowAt 0 rfl)) (by exact rfl) (by simp) (by simp) _ rfl λW7 N17 _ f=>ap rfl (dn f rfl ?_)
  have N18:Hp w0 M ((Ent.row 5 1 v_3 (k+ (digs n).length) (xs++ci (digs n)))::(oC bp #[.func (.func 137) #[] #[pP bp,pP bo]] 172)::(oC bo #[v_3] 140)::H) W7:=N17.rowEq (by rw[kk (n:=n) (by omega)];rfl) (by rw[kk (n:=n) (by omega)];rfl)
  have N20:=N18.pl [2,2]
  exact⟨_,rfl,M,[oC bp #[.func (.func 137) #[] #[pP bp,pP bo]] 172,oC bo #[v_3] 140,Ent.row 5 1 v_3 (k+ (digs n).length) (xs++ci (digs n))],mR _,N20,rfl,v_3,rfl⟩
theorem textP_ok (M:Mem) (n:Int):Ok Tryz.prog M 114 [iL n] (λ_ v=>v=.tuple #[S (text n).1,iL (text n).2]):=by
 intro M hM0 w0 H w p0
 refine Re 25 Tryz.func114 rfl λa0 f0=>RR (Ye f0 2 λ_ f=>an (RR (Y f 1 λ_ f=>Y19 f p0 (fits_ok _ (n)) λW1 N1 _ f=>Ye f 1 λ_ f=>Y7 f (b:= !(fitsB n)) (λB1=>?_) λB1=>?_)))
 ·have U1: (fitsB n)=false:=by simpa using B1
  refine RR (Ye f 2 λ_ f=>wp_ret (bC (eX f rfl (Lk 2 (S [])) (Lk 3 (iL 20)) (⟨_,rfl,M,(mR _),(N1.dropN 0),?_⟩))))
  rw[text_no U1]
 ·have U2: (fitsB n)=true:=by simpa using B1
  refine St (an ?_)
  have hfit:=U2
  have hfit2:=oe.1 hfit
  refine aA (Y13 f N1 (.cells #[Sn] 140 (0,0)) λQ1 W2 N2 _ f=>eT (RR (Y13 f N2 (.cells #[.nilFunc] 172 (0,0)) λQ2 W3 N3 _ f=>eT (RR (Y f 1 λ_ f=>Y26 f N3 0 rfl rfl (b:=Q2) (j:=0) (v:=.func (.func 137) #[] #[pP Q2,pP Q1]) rfl (by exact rfl) (by simp) (by simp) _ rfl λW4 N4 _ f=>eT (an (wp_block (RR (Y f 1 λ_ f=>?_)))))))))
  have N5:=N4.nilRow 5 1
  refine Ye f 2 λ_ f=>Y7 f (b:=decide (n<0)) (λB2=>?_) λB2=>?_
  ·have U3:=dI.1 B2
   refine RR (Z f (Y31 (v:=Sn) rfl (ad:=⟨Q1,0,none⟩) (N5.ownCell 2 rfl 0)) λ_ f=>aP (k:=1) (c:=1) f N5 (.cells #[.int .u8 45] 5 (0,0)) kr (λ_=>by kernel_rfl) λQ3 W5 N6 _ f=>?_)
   have N7:=N6.pl [1]
   refine jD (d:=18) (t:=140) (e:=5) (z:=.int .u8 0) (v:=Sn) (size:=1) (bytes:=1) (k:=0) (m:=1) (c:=1) (xs:=[]) (news:=[.int .u8 45]) (ad:=⟨Q3,0,none⟩) f N7 kr kr rfl rfl rfl kr kr kr kr (rfl) (am (N7.ownCell 1 rfl) 0 rfl) (all_one kr) (by omega) (by omega) λv_1 W6 N8 _ f=>?_
   have N9:=N8.pl [1]
   have N10:=N9.drop
   refine Y26 f N10 2 rfl rfl (b:=Q1) (j:=0) (v:=v_1) (row_one (N10.rowAt 0 rfl)) (by exact rfl) (by simp) (by simp) _ rfl λW7 N11 _ f=>eT (aA (Z f (Y31 (v:=.func (.func 137) #[] #[pP Q2,pP Q1]) rfl (ad:=⟨Q2,0,none⟩) (N11.ownCell 1 rfl 0)) λ_ f=>Y f 1 λ_ f=>Y f 1 λ_ f=>?_))
   have f:=Frm.set f 21 (v:=iL (IntKind.wrap .i64 (0-n))) (v':=iL (-n)) kr (congrArg (Value.int .i64) ((IntWalk.i64_in _ (by omega)).trans (Int.zero_sub _)))
   have f:=Frm.set f 21 (v:=iL (-n)) (v':=iL ((-n).toNat:Int)) kr (congrArg (Value.int .i64) (by omega))
   have N13:=N11.pl [2,2]
   refine Y18 (E:=[oC Q2 #[.func (.func 137) #[] #[pP Q2,pP Q1]] 172,oC Q1 #[v_1] 140,Ent.row 5 1 v_1 (0+1) ([]++[.int .u8 45])]) (H:=(H)) f N13 (oD _ Q2 Q1 ((-n).toNat) (by omega) (v_1) (0+1) ([]++[.int .u8 45]) (by omega)) λv_2 V1 mo W8 J1 N14 ej _ f=>?_
   obtain⟨rfl,v3,rfl⟩:=ej
   have N15:Hp w0 M ((oC Q2 #[.func (.func 137) #[] #[pP Q2,pP Q1]] 172)::(oC Q1 #[v3] 140)::(Ent.row 5 1 v3 ((0+1)+ (digs (-n).toNat).length) (([]++[.int .u8 45])++ci (digs (-n).toNat)))::H) W8:=N14.less J1
   refine ap rfl (dZ (aK (RR (Z f (Y31 (v:=v3) rfl (ad:=⟨Q1,0,none⟩) (N15.ownCell 1 rfl 0)) λ_ f=>?_))))
   have N16:=N15.pl [2]
   have N17:Hp w0 M ((Ent.row 5 1 v3 (45::digs (-n).toNat).length (ci (45::digs (-n).toNat)))::(oC Q2 #[.func (.func 137) #[] #[pP Q2,pP Q1]] 172)::(oC Q1 #[v3] 140)::H) W8:=N16.rowEq (by simp<;>omega) (by simp[ci])
   refine Z (v:=S (45::digs (-n).toNat)) f (hU rfl (l:=45::digs (-n).toNat) (v:=v3) kr (e:=5) kr kr kr (N17.rowAt 0 rfl)) λ_ f=>Ye f 2 λ_ f=>wp_ret (eX f rfl (Lk 2 (S (45::digs (-n).toNat))) (Lk 3 (iL 0)) (⟨_,rfl,M,(mR _),(N17.dropN 3),?_⟩))
   rw[text_neg hfit U3]
  ·have U4:=aq dI B2
   refine aA (Z f (Y31 (v:=.func (.func 137) #[] #[pP Q2,pP Q1]) rfl (ad:=⟨Q2,0,none⟩) (N5.ownCell 1 rfl 0)) λ_ f=>Y f 1 λ_ f=>?_)
   have f:=Frm.set f 11 (v:=iL n) (v':=iL (n.toNat:Int)) kr (congrArg (Value.int .i64) (by omega))
   have N19:=N5.pl [2,2]
   refine Y18 (E:=[oC Q2 #[.func (.func 137) #[] #[pP Q2,pP Q1]] 172,oC Q1 #[Sn] 140,Ent.row 5 1 Sn 0 []]) (H:=(H)) f N19 (oD _ Q2 Q1 (n.toNat) (by omega) Sn (0) ([]) (by omega)) λv_3 V2 E_2 W9 J2 N20 jk _ f=>?_
   obtain⟨rfl,v3,rfl⟩:=jk
   have N21:Hp w0 M ((oC Q2 #[.func (.func 137) #[] #[pP Q2,pP Q1]] 172)::(oC Q1 #[v3] 140)::(Ent.row 5 1 v3 (0+ (digs n.toNat).length) ([]++ci (digs n.toNat)))::H) W9:=N20.less J2
   refine ap rfl (dZ (aK (RR (Z f (Y31 (v:=v3) rfl (ad:=⟨Q1,0,none⟩) (N21.ownCell 1 rfl 0)) λ_ f=>?_))))
   have N22:=N21.pl [2]
   have N23:Hp w0 M ((Ent.row 5 1 v3 (digs n.toNat).length (ci (digs n.toNat)))::(oC Q2 #[.func (.func 137) #[] #[pP Q2,pP Q1]] 172)::(oC Q1 #[v3] 140)::H) W9:=N22.rowEq (by simp) (by simp)
   refine Z (v:=S (digs n.toNat)) f (hU rfl (l:=digs n.toNat) (v:=v3) kr (e:=5) kr kr kr (N23.rowAt 0 rfl)) λ_ f=>Ye f 2 λ_ f=>wp_ret (eX f rfl (Lk 2 (S (digs n.toNat))) (Lk 3 (iL 0)) (⟨_,rfl,M,(mR _),(N23.dropN 3),?_⟩))
   rw[text_pos hfit U4]
theorem mO (M:Mem) (n:Nat): ∀ (hn:n≤9007199254740992),Ok Tryz.prog M 127 [iL (n:Int)] (λ_ v=>v=S (digs n)):=by
 induction n using Nat.strongRecOn generalizing M
 rename_i n ih
 intro hn
 have hl1:=im (n:=n / 10) (by omega)
 have hl2:=im (n:=n % 10) (by omega)
 intro M hM0 w0 H w p0
 refine Re 17 Tryz.func127 rfl λa0 f0=>RR (Ye f0 1 λ_ f=>an (RR (Ye f 2 λ_ f=>Y7 f (b:=decide ((n:Int)<10)) (λB1=>?_) λB1=>?_)))
 ·have U1:=dI.1 B1
  refine RR (Y f 1 λ_ f=>Y f 1 λ_ f=>?_)
  have f:=Frm.set f 6 (v:=iL (IntKind.wrap .i64 ((48:Int)+ (n:Int)))) (v':=iL ((48:Int)+ (n:Int))) kr (congrArg (Value.int .i64) (IntWalk.i64_in _ (by omega)))
  refine Y f 1 λ_ f=>?_
  have f:=Frm.set f 7 (v:=.int .u8 (IntKind.wrap .u8 ((48:Int)+ (n:Int)))) (v':=.int .u8 (((48:Int)+ (n:Int)) % 256)) kr (congrArg (Value.int .u8) (IntKind.wrap_u8 _))
  have f:=Frm.set f 7 (v:=.int .u8 (((48:Int)+ (n:Int)) % 256)) (v':=.int .u8 ((dch n).toNat:Int)) kr (congrArg (Value.int .u8) (dch_small (by omega)))
  refine aP (k:=1) (c:=1) f p0 (.cells #[.int .u8 ((dch n).toNat:Int)] 5 (0,0)) kr (λ_=>by kernel_rfl) λQ1 W1 N1 _ f=>Z (v:=S [dch n]) f (X_string rfl (l:=[dch n]) (ad:=⟨Q1,0,none⟩) (cap:=1) kr (e:=5) kr kr kr (am (N1.ownCell 0 rfl) 0 rfl)) λ_ f=>Ye f 1 λ_ f=>wp_ret (bC (au f rfl (Lk 2 (S [dch n])) (⟨_,rfl,M,mR _,(N1.dropN 1),?_⟩)))
  rw[kk (n:=n) (by omega)]
 ·have U2:=aq dI B1
  refine St (RR (Y f 1 λ_ f=>Y f 1 λ_ f=>?_))
  have f:=Frm.set f 11 (v:=iL (IntKind.wrap .i64 ((n:Int).tdiv 10))) (v':=iL ((n:Int) / 10)) kr (congrArg (Value.int .i64) (quo_i64 (by omega) (by decide) (by omega)))
  have f:=Frm.set f 11 (v:=iL ((n:Int) / 10)) (v':=iL ((n / 10:Nat):Int)) kr (congrArg (Value.int .i64) (by omega))
  refine Y19 f p0 (ih (n / 10) (by omega) _ (by omega)) λW2 N2 _ f=>Y f 1 λ_ f=>Y f 1 λ_ f=>?_
  have f:=Frm.set f 14 (v:=iL ((n:Int).tmod 10)) (v':=iL ((n:Int) % 10)) kr (congrArg (Value.int .i64) (rem_nn (by omega)))
  have f:=Frm.set f 14 (v:=iL ((n:Int) % 10)) (v':=iL ((n % 10:Nat):Int)) kr (congrArg (Value.int .i64) (by omega))
  refine Y19 f N2 (ih (n % 10) (by omega) _ (by omega)) λW3 N3 _ f=>Z f (Y28 rfl (l:=digs (n / 10)) (m:=digs (n % 10)) (by first|omega|(simp only[List.length_cons,List.length_nil,List.length_append];omega))) λ_ f=>Ye f 1 λ_ f=>wp_ret (au f rfl (Lk 2 (S ((digs (n / 10))++(digs (n % 10))))) (⟨_,rfl,M,mR _,(N3.dropN 0),?_⟩))
  rw[mz (n:=n) (by omega),kk (n:=n % 10) (by omega),dch_mod]
theorem textR_ok (M:Mem) (n:Int):Ok Tryz.prog M 88 [iL n] (λ_ v=>v=.tuple #[S (text n).1,iL (text n).2]):=by
 intro M hM0 w0 H w p0
 refine Re 15 Tryz.func88 rfl λa0 f0=>RR (Ye f0 2 λ_ f=>an (RR (Y f 1 λ_ f=>Y19 f p0 (fitsR_ok _ (n)) λW1 N1 _ f=>Ye f 1 λ_ f=>Y7 f (b:= !(fitsB n)) (λB1=>?_) λB1=>?_)))
 ·have U1: (fitsB n)=false:=by simpa using B1
  refine RR (Ye f 2 λ_ f=>wp_ret (bC (eX f rfl (Lk 2 (S [])) (Lk 3 (iL 20)) (⟨_,rfl,M,mR _,N1,?_⟩))))
  rw[text_no U1]
 ·have U2: (fitsB n)=true:=by simpa using B1
  refine St (an (an ?_))
  have hfit:=U2
  have hfit2:=oe.1 hfit
  refine aA (Ye f 2 λ_ f=>Y7 f (b:=decide (n<0)) (λB2=>?_) λB2=>?_)
  ·have U3:=dI.1 B2
   refine RR (Y f 1 λ_ f=>Y f 1 λ_ f=>?_)
   have f:=Frm.set f 10 (v:=iL (IntKind.wrap .i64 (0-n))) (v':=iL (-n)) kr (congrArg (Value.int .i64) ((IntWalk.i64_in _ (by omega)).trans (Int.zero_sub _)))
   have hl1:=im (n:=(-n).toNat) (by omega)
   have f:=Frm.set f 10 (v:=iL (-n)) (v':=iL ((-n).toNat:Int)) kr (congrArg (Value.int .i64) (by omega))
   refine Y19 f N1 (mO _ (-n).toNat (by omega)) λW2 N2 _ f=>Z f (Y28 rfl (l:=[45]) (m:=digs (-n).toNat) (by first|omega|(simp only[List.length_cons,List.length_nil,List.length_append];omega))) λ_ f=>Ye f 2 λ_ f=>wp_ret (bC (eX f rfl (Lk 2 (S ([45]++(digs (-n).toNat)))) (Lk 3 (iL 0)) (⟨_,rfl,M,mR _,N2,?_⟩)))
   rw[text_neg hfit U3]
   rfl
  ·have U4:=aq dI B2
   refine St (RR (Y f 1 λ_ f=>?_))
   have f:=Frm.set f 13 (v:=iL n) (v':=iL (n.toNat:Int)) kr (congrArg (Value.int .i64) (by omega))
   refine Y19 f N1 (mO _ n.toNat (by omega)) λW3 N3 _ f=>Ye f 2 λ_ f=>wp_ret (eX f rfl (Lk 2 (S (digs n.toNat))) (Lk 3 (iL 0)) (⟨_,rfl,M,mR _,N3,?_⟩))
   rw[text_pos hfit U4]
end Go.Proofs.YtkopljikappieaaGreatDoor
end
section
namespace Go.Num
open Go
end Go.Num
namespace Go.Num
open Go
end Go.Num
end
section
namespace Go.Proofs.YtkopljikappieaaGreatDoor
open Go Go.Vc Go.RowKit Go.Num
def lH (_:Nat) (x:Int):Option (Bs×Int):=some (Go.Num.text x)
theorem h_numText_ok (n:Nat) (M:Mem) (x:Int) (r:Bs×Int) (hF:lH n x=some r):Ok Tryz.prog M 114 [iL x] (λ_ v=>v=.tuple #[S r.1,iL r.2]):=by
 obtain rfl:=Option.some.inj hF
 exact textP_ok M x
def kL (_:Nat) (x:Int):Option (Bs×Int):=some (Go.Num.text x)
theorem nI (n:Nat) (M:Mem) (x:Int) (r:Bs×Int) (hF:kL n x=some r):Ok Tryz.prog M 88 [iL x] (λ_ v=>v=.tuple #[S r.1,iL r.2]):=by
 obtain rfl:=Option.some.inj hF
 exact textR_ok M x
end Go.Proofs.YtkopljikappieaaGreatDoor
end
section
namespace Go.Proofs.YtkopljikappieaaGreatDoor
open Go Go.Vc Go.RowKit
def cU (n:Nat) (d0:TD0):Option Bool:=
 bif(decide (d0.ab=3)) then
  ((ce n d0.aa).bind λX1=>
  some ((X1)))
 else
  some ((false))
theorem dx (n:Nat) (M:Mem) (hG:GL M) (c0:Lv) (d0:TD0) (h0:Rep M (ar d0) c0) (r:Bool) (hF:cU n d0=some r):Ok Tryz.prog M 76 [.agg c0.toArray] (λ_ v=>v=bO r):=by
 unfold cU at hF
 intro M1 hM0 w0 H w p0
 replace hG:=GL.mono hM0 hG
 replace h0:=Rep.mono hM0 _ _ h0
 obtain⟨Z1,P1,Z2,P2,rfl,B1,B2⟩:=TD0.opn h0
 refine Re 11 Tryz.func76 rfl λa0 f0=>RR (Y14 (cs:=(aTD0 d0 Z1 P1 Z2 P2)) (T:=26) f0 p0 λQ1 V1 W1 J1 R1 N1 _ f=>?_)
 have R2:=bj R1
 refine Ye f 1 λ_ f=>RR (Y f 1 λ_ f=>Y16 f N1 R2 0 rfl λ_ f=>Y f 2 λ_ f=>?_)
 rcases cE hF with⟨B3,F1⟩|⟨B3,F3⟩
 ·have U1:=dI.1 B3
  have f:=f.st 6 (cB B3)
  refine Y f 1 λ_ f=>Y16 f N1 R2 3 rfl λ_ f=>?_
  obtain⟨X1,l1,F2⟩:=bS F1
  refine Y19 f N1 (bZ n _ d0.aa X1 l1) λW2 N2 _ f=>Ye f 2 λ_ f=>wp_ret (au f rfl (Lk 2 (bO X1)) ?_)
  cases sI F2
  exact⟨_,rfl,V1,J1,N2,rfl⟩
 ·have U2:=aq dI B3
  have f:=f.st 6 (cB B3)
  refine Ye f 5 λ_ f=>wp_ret (au f rfl (Lk 2 (bO false)) ?_)
  cases sI F3
  exact⟨_,rfl,V1,J1,N1,rfl⟩
def jj (n:Nat) (d0:Bs):Option Bool:=
 bif(decide ((d0.length:Int)≤64)) then
  ((cR n d0).bind λX1=>
  some ((X1)))
 else
  some ((false))
theorem nK (n:Nat) (M:Mem) (hG:GL M) (d0:Bs) (r:Bool) (hF:jj n d0=some r):Ok Tryz.prog M 73 [S d0] (λ_ v=>v=bO r):=by
 unfold jj at hF
 intro M1 hM0 w0 H w p0
 replace hG:=GL.mono hM0 hG
 refine Re 10 Tryz.func73 rfl λa0 f0=>RR (Ye f0 1 λ_ f=>RR (Y f 4 λ_ f=>?_))
 rcases cE hF with⟨B1,F1⟩|⟨B1,F3⟩
 ·have U1:=dI.1 B1
  have f:=f.st 6 (cB B1)
  refine Y f 1 λ_ f=>?_
  obtain⟨X1,l1,F2⟩:=bS F1
  refine Y19 f p0 (gq n _ hG d0 X1 l1) λW1 N1 _ f=>Ye f 2 λ_ f=>wp_ret (au f rfl (Lk 2 (bO X1)) ?_)
  cases sI F2
  exact⟨_,rfl,M1,(mR _),N1,rfl⟩
 ·have U2:=aq dI B1
  have f:=f.st 6 (cB B1)
  refine Ye f 4 λ_ f=>wp_ret (au f rfl (Lk 2 (bO false)) ?_)
  cases sI F3
  exact⟨_,rfl,M1,(mR _),p0,rfl⟩
def gh (n:Nat) (d0:TD0):Option Bool:=
 bif(decide (d0.ab=3)) then
  ((jj n d0.aa).bind λX1=>
  some ((X1)))
 else
  some ((false))
theorem kf (n:Nat) (M:Mem) (hG:GL M) (c0:Lv) (d0:TD0) (h0:Rep M (ar d0) c0) (r:Bool) (hF:gh n d0=some r):Ok Tryz.prog M 32 [.agg c0.toArray] (λ_ v=>v=bO r):=by
 unfold gh at hF
 intro M1 hM0 w0 H w p0
 replace hG:=GL.mono hM0 hG
 replace h0:=Rep.mono hM0 _ _ h0
 obtain⟨Z1,P1,Z2,P2,rfl,B1,B2⟩:=TD0.opn h0
 refine Re 11 Tryz.func32 rfl λa0 f0=>RR (Y14 (cs:=(aTD0 d0 Z1 P1 Z2 P2)) (T:=26) f0 p0 λQ1 V1 W1 J1 R1 N1 _ f=>?_)
 have R2:=bj R1
 refine Ye f 1 λ_ f=>RR (Y f 1 λ_ f=>Y16 f N1 R2 0 rfl λ_ f=>Y f 2 λ_ f=>?_)
 rcases cE hF with⟨B3,F1⟩|⟨B3,F3⟩
 ·have U1:=dI.1 B3
  have f:=f.st 6 (cB B3)
  refine Y f 1 λ_ f=>Y16 f N1 R2 3 rfl λ_ f=>?_
  obtain⟨X1,l1,F2⟩:=bS F1
  refine Y19 f N1 (nK n _ (GL.mono J1 hG) d0.aa X1 l1) λW2 N2 _ f=>Ye f 2 λ_ f=>wp_ret (au f rfl (Lk 2 (bO X1)) ?_)
  cases sI F2
  exact⟨_,rfl,V1,J1,N2,rfl⟩
 ·have U2:=aq dI B3
  have f:=f.st 6 (cB B3)
  refine Ye f 5 λ_ f=>wp_ret (au f rfl (Lk 2 (bO false)) ?_)
  cases sI F3
  exact⟨_,rfl,V1,J1,N1,rfl⟩
theorem bk (M : Mem) (e : Int) (at_ : List UInt8) : Ok Tryz.prog M 31 [.bool true, .int .i64 e, S at_] (fun _ v => v = .tuple #[]) := OkX.ok (ke 0 M true e at_ (.inr ()) rfl)
theorem bw (M : Mem) (e : Int) (at_ : List UInt8) : OkX Tryz.prog M 31 [.bool false, .int .i64 e, S at_] 78 (.inl (e, at_)) (fun (_ : Unit) => fun _ v => v = .tuple #[]) := ke 0 M false e at_ (.inl (e, at_)) rfl
def aL (n:Nat) (d0:Bs) (d1:Bs):Option Bs:=
 bif(decide (d0=[])) then
  (some (d1))
 else
  aS (d0.length+ [47].length≤9223372036854775807)<|
  aS ((d0++[47]).length+d1.length≤9223372036854775807)<|
  some ((d0++[47])++d1)
theorem aJ (n:Nat) (M:Mem) (hG:GL M) (d0:Bs) (d1:Bs) (r:Bs) (hF:aL n d0 d1=some r):Ok Tryz.prog M 35 [S d0,S d1] (λ_ v=>v=S r):=by
 unfold aL at hF
 intro M1 hM0 w0 H w p0
 replace hG:=GL.mono hM0 hG
 refine Re 12 Tryz.func35 rfl λa0 f0=>RR (Ye f0 1 λ_ f=>an (RR (Y f 1 λ_ f=>Z f (Y36 rfl (l:=d0) (m:=[])) λ_ f=>eT (RcF f hF (λB1 F1=>?_) λB1 F2=>?_))))
 ·have U1:=dI.1 B1
  refine RR (Ye f 2 λ_ f=>wp_ret (bC (au f rfl (Lk 4 (S d1)) ?_)))
  cases sI F1
  exact⟨_,rfl,M1,(mR _),p0,rfl⟩
 ·have U2:=aq dI B1
  refine St (RR (Y f 1 λ_ f=>?_))
  obtain⟨O1,F3⟩:=nS F2
  refine Z f (Y28 rfl (l:=d0) (m:=[47]) O1) λ_ f=>Y f 1 λ_ f=>?_
  obtain⟨O2,F4⟩:=nS F3
  refine Z f (Y28 rfl (l:=d0++[47]) (m:=d1) O2) λ_ f=>Ye f 1 λ_ f=>wp_ret (au f rfl (Lk 4 (S ((d0++[47])++d1))) ?_)
  cases sI F4
  exact⟨_,rfl,M1,(mR _),p0,rfl⟩
def dG (n:Nat) (d0:Bs) (d1:Int):Option Bs:=
 (lH n d1).bind λX1=>
 (aL n d0 X1.1).bind λX2=>
 some (X2)
theorem hP (n:Nat) (M:Mem) (hG:GL M) (d0:Bs) (d1:Int) (r:Bs) (hF:dG n d0 d1=some r):Ok Tryz.prog M 74 [S d0,iL d1] (λ_ v=>v=S r):=by
 unfold dG at hF
 intro M1 hM0 w0 H w p0
 replace hG:=GL.mono hM0 hG
 refine Re 15 Tryz.func74 rfl λa0 f0=>RR (Ye f0 1 λ_ f=>RR (Y f 1 λ_ f=>?_))
 obtain⟨X1,l1,F1⟩:=bS hF
 refine Y19 f p0 (h_numText_ok n _ d1 X1 l1) λW1 N1 _ f=>Ye f 5 λ_ f=>RR (Y f 2 λ_ f=>?_)
 obtain⟨X2,l2,F2⟩:=bS F1
 refine Y19 f N1 (aJ n _ hG d0 X1.1 X2 l2) λW2 N2 _ f=>Ye f 1 λ_ f=>wp_ret (au f rfl (Lk 4 (S X2)) ?_)
 cases sI F2
 exact⟨_,rfl,M1,(mR _),N2,rfl⟩
def dh (n:Nat) (rec_syntax_expr:TD0→Bs→Option (Sum (Int×Bs) TH0)) (d0:List TD0) (d2:Bs) (K1:List TH0×Int):Option (Lp (List TH0×Int) (Sum (Int×Bs) (List TH0))):=
    bif(decide (K1.2<((d0.length:Nat):Int))) then
     ((aQ d0 K1.2).bind λX1=>
     (dG n d2 K1.2).bind λX2=>
     (rec_syntax_expr X1 X2).bind λX3=>
     (match X3 with
     |.inl X4=>some (.br (.inl X4))
     |.inr X5=>aS ((K1.1.length+1)*88≤140737488355328)<|
      aS (inR .i64 (K1.2+1))<|
      some (.nx (K1.1++[(⟨X5.ab,X5.aa,X5.af,X5.ak,X5.al,X5.fL⟩:TH0)],K1.2+1))))
    else
     some (.br (.inr K1.1))
def cA (n:Nat) (rec_syntax_expr:TD0→Bs→Option (Sum (Int×Bs) TH0)) (d0:List TD0) (d1:Int) (d2:Bs):Option (Sum (Int×Bs) (List TH0)):=
 (aE (dh n rec_syntax_expr d0 d2) n (([]:List TH0),d1)).bind λQ1=>
 (match Q1 with
 |.inl G1=>some (.inl G1)
 |.inr G2=>some (.inr G2))
theorem bR (n:Nat) (rec_syntax_expr:TD0→Bs→Option (Sum (Int×Bs) TH0)) (hrec_syntax_expr: ∀ (M:Mem) (hG:GL M) (c0:Lv) (d0:TD0) (h0:Rep M (ar d0) c0) (d1:Bs) (r:Sum (Int×Bs) TH0) (hF:rec_syntax_expr d0 d1=some r),OkX Tryz.prog M 18 [.agg c0.toArray,S d1] 78 r (λr=>λM' v=>∃ (c0:Lv),v=.agg c0.toArray∧Rep M' (ao r) c0)) (M:Mem) (hG:GL M) (A0:Oa) (cap0:Nat) (d0:List TD0) (h0:Sli M 6 ar A0 cap0 d0) (d1:Int) (d2:Bs) (r:Sum (Int×Bs) (List TH0)) (hF:cA n rec_syntax_expr d0 d1 d2=some r):OkXH Tryz.prog M [] 33 [sL A0 d0 cap0,iL d1,S d2] 78 r (λr=>λM' E' v=>∃ (A0:Oa) (k0:Nat) (s0:Lv),v=sL A0 r k0∧E'=[.row 31 6 (sL A0 r k0) r.length s0]∧ag M' (r.map ao) s0):=by
 unfold cA at hF
 intro M1 hM0 w0 H w p0
 replace hG:=GL.mono hM0 hG
 replace h0:=h0.mono hM0
 refine Re 27 Tryz.func33 rfl λa0 f0=>RR (Ye f0 1 λ_ f=>an (RR (Ye f 2 λ_ f=>wp_block ?_)))
 obtain⟨Z1,P1,H1,N1⟩:=p0.nilR 31 6 TH0
 have f:=f.st 6 (H1)
 have D1:ag M1 (([]:List TH0).map ao) []:=rfl
 obtain⟨Q1,co,F1⟩:=bS hF
 refine wp_mono (Q:=λe a w=>(∃G1:Int×Bs,e=.panic (flawE 78 G1)∧Q1=.inl G1∧∃V4:Mem,M1.le V4∧Frm 27 [] a∧Hp w0 V4 (H) w)∨(e=.exit 0∧(∃G2:List TH0,Q1=.inr G2∧∃V5:Mem,M1.le V5∧∃ (Z7:Oa),∃ (P7:Nat),∃ (L3:Lv),ag V5 (G2.map ao) L3∧Frm 27 [(6,sL Z7 G2 P7)] a∧Hp w0 V5 ((rO 31 6 Z7 G2 P7 L3)::H) w))) (bT (n:=27) (w0:=w0) (M:=M1) (λ (I1,K1,Z2,P2,L1)=>[(0,sL A0 d0 cap0),(2,S d2),(6,sL Z2 K1.1 P2),(7,iL K1.2)]) (λ (I1,K1,Z2,P2,L1)=>((rO 31 6 Z2 K1.1 P2 L1)::H)) (λ (I1,K1,Z2,P2,L1) MM=>aE (dh n rec_syntax_expr d0 d2) I1 K1=some Q1∧ag MM (K1.1.map ao) L1) (λ (I1,K1,Z2,P2,L1)=>I1) (n,(([]:List TH0),d1),Z1,P1,[]) (f.kp) N1 ⟨co,D1⟩ ?_) ?_
 ·rintro⟨I1,K1,Z2,P2,L1⟩ V1 _ W1 J1 gM f N2
  obtain⟨cu,D2⟩:=gM
  obtain⟨I2,lO,rfl,bx,T1⟩:=aZ cu
  unfold dh at bx
  refine an (RR (Ye f 4 λ_ f=>RcF f bx (λB1 F2=>?_) λB1 F8=>?_))
  ·have U1:=dI.1 B1
   refine St (an (wp_block (dp (E:=[rO 31 6 Z2 K1.1 P2 L1]) (Hr:=(H)) [(0,true),(1,true),(2,true),(3,true),(4,true),(5,true),(6,true),(7,true),(8,false),(9,false),(10,false),(11,true)] N2 kr kr rfl kr (Y0 default f 3 λ_ f=>?_))))
   obtain⟨X1,l1,F3⟩:=bS F2
   obtain⟨C1,cZ,jC,-,D3,R1⟩:=Sli.at_ (h0.mono J1) l1
   obtain⟨Z3,P3,Z4,P4,rfl,B2,B3⟩:=TD0.opn D3
   refine bz (v:=Pa (C1.add (K1.2.toNat*6))) f kr kr rfl rfl (λ_ pq=>Y30 jC rfl (len:=d0.length) (cap:=cap0) (k:=.i64) (i:=K1.2) (e:=26) (sz:=6) (ax l1) (aw l1)) λ_ f=>bz (v:=.agg (aTD0 X1 Z3 P3 Z4 P4)) f kr kr rfl rfl (λ_ pq=>Y32 (cs:=(lTD0 X1 Z3 P3 Z4 P4)) rfl (ad:=C1.add (K1.2.toNat*6)) (λj v h=>pq.cell (R1 j v h))) λ_ f=>Y0 default f 2 λ_ f=>?_
   obtain⟨X2,l2,F4⟩:=bS F3
   refine dM (v:=S X2) f kr kr rfl rfl (λ_=>by kernel_rfl) (hP n _ (GL.mono J1 hG) d2 K1.2 X2 l2) λ_ f=>bL (E:=[rO 31 6 Z2 K1.1 P2 L1]) λW3 N4=>?_
   obtain⟨X3,l3,F5⟩:=bS F4
   rcases X3 with X4|X5
   ·refine aR f N4 (hrec_syntax_expr _ (GL.mono J1 hG) _ X1 (TD0.shutx (x:=X1) B2 B3) X2 (.inl X4) l3) kr (λ_=>by kernel_rfl) λV2 W4 J2 N5=>M_p f λ_ f=>nE (cr (cr ?_))
    cases sI F5
    exact .inl ⟨X4,rfl,(sI T1).symm,V2,(J1.trans J2),f.kp,(N5.dropN 1)⟩
   ·refine Y17 f N4 (OkX.ok (hrec_syntax_expr _ (GL.mono J1 hG) _ X1 (TD0.shutx (x:=X1) B2 B3) X2 (.inr X5) l3)) λ_ V3 W5 J3 N6 ej _ f=>?_
    obtain⟨gW,rfl,D4⟩:=ej
    obtain⟨Z5,P5,rfl,B4⟩:=TH0.opn D4
    refine ap rfl (dl (M1:=V3) (E:=[rO 31 6 Z2 K1.1 P2 L1]) J3 N6 (bL (E:=[rO 31 6 Z2 K1.1 P2 L1]) λW6 N7=>aP (k:=1) (c:=1) f N7 (.cells (aTH0 X5 Z5 P5) 31 (0,0)) kr (λ_=>by kernel_rfl) λQ2 W7 N8 _ f=>ap rfl (dl (M1:=V3) (E:=[Ent.obj Q2 (.cells (aTH0 X5 Z5 P5) 31 (0,0)),rO 31 6 Z2 K1.1 P2 L1]) J3 N8 (bL (E:=[Ent.obj Q2 (.cells (aTH0 X5 Z5 P5) 31 (0,0)),rO 31 6 Z2 K1.1 P2 L1]) λW8 N9=>?_))))
    have N10:=N9.pl [1]
    obtain⟨O1,F6⟩:=nS F5
    refine Y21 (z:=.agg #[iB 0,S [],iL 0,S [],S [],Sn]) (f:=ao) (xs:=K1.1) (ys:=[(⟨X5.ab,X5.aa,X5.af,X5.ak,X5.al,X5.fL⟩:TH0)]) (news:=(lTH0 X5 Z5 P5)) (ad:=⟨Q2,0,none⟩) (m:=1) (c:=1) f N10 (ag.mono J3 _ _ D2) (by exact⟨_,_,rfl,TH0.shut B4,rfl⟩) rfl rfl rfl rfl (am (N10.ownCell 1 rfl) 0 rfl) (by exact O1) (by have hg_:=O1;first|omega|(simp only[List.length_cons,List.length_nil] at*;omega)) λZ6 P6 L2 W9 N11 D5 _ f=>?_
    have N12:=N11.pl [1]
    have N13:=N12.drop
    refine ap rfl (dl (M1:=V3) (E:=[rO 31 6 Z6 (K1.1++[(⟨X5.ab,X5.aa,X5.af,X5.ak,X5.al,X5.fL⟩:TH0)]) P6 L2]) J3 N13 (Y0 default f 1 λ_ f=>dL rfl λW10 N14=>dZ (aK (aA (Y f 1 λ_ f=>?_)))))
    obtain⟨O2,F7⟩:=nS F6
    refine Y f 1 λ_ f=>?_
    have f:=f.st 14 (iW O2)
    refine Ye f 1 λ_ f=>?_
    cases sI F7
    exact⟨⟨I2,(K1.1++[(⟨X5.ab,X5.aa,X5.af,X5.ak,X5.al,X5.fL⟩:TH0)],K1.2+1),Z6,P6,L2⟩,Nat.lt_succ_self _,V3,(J1.trans J3),⟨T1,D5⟩,f.kp,N14⟩
  ·have U2:=aq dI B1
   refine wp_exit (eH (eH ?_))
   cases sI F8
   exact .inr ⟨rfl,K1.1,(sI T1).symm,V1,J1,Z2,P2,L1,D2,f.kp,N2⟩
 ·rintro _ _ W13 (⟨G1,rfl,rfl,V4,J4,f,N15⟩|⟨rfl,G2,rfl,V5,J5,Z7,P7,L3,D6,f,N16⟩)
  ·refine nE (cr (ba f ?_))
   cases sI F1
   exact⟨V4,J4,N15,rfl⟩
  ·refine kh (aK (RR (Ye f 2 λ_ f=>wp_ret (au f rfl (Lk 6 (sL Z7 G2 P7)) ?_))))
   cases sI F1
   exact⟨_,rfl,V5,_,J5,N16,⟨Z7,P7,L3,rfl,rfl,D6⟩⟩
def eo (n:Nat) (d0:TD0) (d1:Bs):Option (Sum (Int×Bs) TH0):=
 (cU n d0).bind λX1=>
 bif X1 then
  (some (.inr (⟨(3:Int),([]:Bs),(0:Int),d0.aa,([]:Bs),([]:List TH0)⟩:TH0)))
 else
  some (.inl ((121:Int),d1))
theorem iI (n:Nat) (M:Mem) (hG:GL M) (c0:Lv) (d0:TD0) (h0:Rep M (ar d0) c0) (d1:Bs) (r:Sum (Int×Bs) TH0) (hF:eo n d0 d1=some r):OkX Tryz.prog M 75 [.agg c0.toArray,S d1] 78 r (λr=>λM' v=>∃ (c0:Lv),v=.agg c0.toArray∧Rep M' (ao r) c0):=by
 unfold eo at hF
 intro M1 hM0 w0 H w p0
 replace hG:=GL.mono hM0 hG
 replace h0:=Rep.mono hM0 _ _ h0
 obtain⟨Z1,P1,Z2,P2,rfl,B1,B2⟩:=TD0.opn h0
 refine Re 12 Tryz.func75 rfl λa0 f0=>RR (Y14 (cs:=(aTD0 d0 Z1 P1 Z2 P2)) (T:=26) f0 p0 λQ1 V1 W1 J1 R1 N1 _ f=>?_)
 have R2:=bj R1
 refine Y13 f N1 (.cells #[iB 0,S [],iL 0,S [],S [],Sn] 31 (0,0)) λQ2 W2 N2 _ f=>eT (RR (Z f (Y32 (cs:=(lTD0 d0 Z1 P1 Z2 P2)) rfl (ad:=⟨Q1,0,none⟩) (λj v h=>N2.cell (R2 j v h))) λ_ f=>?_))
 obtain⟨X1,l1,F1⟩:=bS hF
 refine Y19 f N2 (dx n _ (GL.mono J1 hG) _ d0 (TD0.shutx (x:=d0) (B1.mono J1) (B2.mono J1)) X1 l1) λW3 N3 _ f=>Y f 1 λ_ f=>?_
 rcases cE F1 with⟨B3,F2⟩|⟨B3,F3⟩
 ·have f:=f.st 6 (cB B3)
  refine Y19 f N3 (bk _ (121:Int) d1) λW4 N4 _ f=>eT (RR (Y f 1 λ_ f=>Y16 f N4 R2 3 rfl λ_ f=>Y f 1 λ_ f=>Ys [iB 3,S [],iL 0,S d0.aa,S [],Sn] #[iB 3,S [],iL 0,S d0.aa,S [],Sn] f N4 rfl rfl λW5 N5 _ f=>Er (cD f rfl (Y11 (cs:=[iB 3,S [],iL 0,S d0.aa,S [],Sn]) (ad:=⟨Q2,0,none⟩) f (am (N5.ownCell 0 rfl) 0 rfl)) ?_)))
  cases sI F2
  exact⟨_,rfl,V1,J1,(N5.dropN 1),⟨[iB 3,S [],iL 0,S d0.aa,S [],Sn],rfl,(TH0.shut Sli.nil)⟩⟩
 ·have f:=f.st 6 (cB B3)
  refine aR f N3 (bw _ (121:Int) d1) kr (λ_=>by kernel_rfl) λV2 W6 J2 N6=>cr (ba f ?_)
  cases sI F3
  exact⟨V2,(J1.trans J2),(N6.dropN 1),rfl⟩
def cS (n:Nat) (d0:TD0) (d1:Int) (d2:Int) (d3:Bs):Option (Sum (Int×Bs) (List TD0)):=
 bif(decide (d0.ab=4)) then
  (bif(decide (((d0.ac.length:Nat):Int)=d1)) then
   (some (.inr d0.ac))
  else
   some (.inl (d2,d3)))
 else
  some (.inl (d2,d3))
theorem cC (n:Nat) (M:Mem) (hG:GL M) (c0:Lv) (d0:TD0) (h0:Rep M (ar d0) c0) (d1:Int) (d2:Int) (d3:Bs) (r:Sum (Int×Bs) (List TD0)) (hF:cS n d0 d1 d2 d3=some r):OkX Tryz.prog M 78 [.agg c0.toArray,iL d1,iL d2,S d3] 78 r (λr=>λM' v=>∃ (A0:Oa) (k0:Nat),v=sL A0 r k0∧Sli M' 6 ar A0 k0 r):=by
 unfold cS at hF
 intro M1 hM0 w0 H w p0
 replace hG:=GL.mono hM0 hG
 replace h0:=Rep.mono hM0 _ _ h0
 obtain⟨Z1,P1,Z2,P2,rfl,B1,B2⟩:=TD0.opn h0
 refine Re 24 Tryz.func78 rfl λa0 f0=>RR (Y14 (cs:=(aTD0 d0 Z1 P1 Z2 P2)) (T:=26) f0 p0 λQ1 V1 W1 J1 R1 N1 _ f=>?_)
 have R2:=bj R1
 refine Ye f 1 λ_ f=>RR (Y f 1 λ_ f=>Y16 f N1 R2 0 rfl λ_ f=>Y f 2 λ_ f=>?_)
 rcases cE hF with⟨B3,F1⟩|⟨B3,F4⟩
 ·have U1:=dI.1 B3
  have f:=f.st 12 (cB B3)
  refine Y f 1 λ_ f=>Y16 f N1 R2 4 rfl λ_ f=>Y f 6 λ_ f=>?_
  rcases cE F1 with⟨B4,F2⟩|⟨B4,F3⟩
  ·have U2:=dI.1 B4
   have f:=f.st 18 (cB B4)
   refine Y19 f N1 (bk _ d2 d3) λW2 N2 _ f=>eT (RR (Y f 1 λ_ f=>Y16 f N2 R2 4 rfl λ_ f=>Ye f 1 λ_ f=>wp_ret (au f rfl (Lk 8 (sL Z1 d0.ac P1)) ?_)))
   cases sI F2
   exact⟨_,rfl,V1,J1,N2,⟨Z1,P1,rfl,(B1.mono J1)⟩⟩
  ·have U3:=aq dI B4
   have f:=f.st 18 (cB B4)
   refine aR f N1 (bw _ d2 d3) kr (λ_=>by kernel_rfl) λV2 W3 J2 N3=>cr (ba f ?_)
   cases sI F3
   exact⟨V2,(J1.trans J2),N3,rfl⟩
 ·have U4:=aq dI B3
  have f:=f.st 12 (cB B3)
  refine Y f 8 λ_ f=>aR f N1 (bw _ d2 d3) kr (λ_=>by kernel_rfl) λV3 W4 J3 N4=>cr (ba f ?_)
  cases sI F4
  exact⟨V3,(J1.trans J3),N4,rfl⟩
def ep (n:Nat) (d0:TD0) (d1:Bs):Option (Sum (Int×Bs) TH0):=
 (cS n d0 (2:Int) (121:Int) d1).bind λX1=>
 (match X1 with
 |.inl X2=>some (.inl X2)
 |.inr X3=>(((aQ X3 (0:Int)).bind λX4=>
  (cU n X4).bind λX5=>
  bif X5 then
   ((aQ X3 (1:Int)).bind λX6=>
   bif(decide (X6.ab=3)) then
    ((aQ X3 (1:Int)).bind λX7=>
    (jd n X7.aa).bind λX8=>
    bif X8 then
     (some (.nx ()))
    else
     ((some (.inl ((121:Int),d1)):Option (Sum (Int×Bs) TH0))).map Lp.br)
   else
    ((some (.inl ((121:Int),d1)):Option (Sum (Int×Bs) TH0))).map Lp.br)
  else
   ((some (.inl ((121:Int),d1)):Option (Sum (Int×Bs) TH0))).map Lp.br:Option (Lp Unit (Sum (Int×Bs) TH0)))).bind λj=>joinF j λG1=>
  (aQ X3 (0:Int)).bind λX9=>
  (aQ X3 (1:Int)).bind λX10=>
  some (.inr (⟨(4:Int),([]:Bs),(0:Int),X9.aa,X10.aa,([]:List TH0)⟩:TH0)))
set_option maxRecDepth 20000 in
theorem iJ (n:Nat) (M:Mem) (hG:GL M) (c0:Lv) (d0:TD0) (h0:Rep M (ar d0) c0) (d1:Bs) (r:Sum (Int×Bs) TH0) (hF:ep n d0 d1=some r):OkX Tryz.prog M 77 [.agg c0.toArray,S d1] 78 r (λr=>λM' v=>∃ (c0:Lv),v=.agg c0.toArray∧Rep M' (ao r) c0):=by
 unfold ep at hF
 intro M1 hM0 w0 H w p0
 replace hG:=GL.mono hM0 hG
 replace h0:=Rep.mono hM0 _ _ h0
 obtain⟨Z1,P1,Z2,P2,rfl,B1,B2⟩:=TD0.opn h0
 refine Re 38 Tryz.func77 rfl λa0 f0=>RR (Y14 (cs:=(aTD0 d0 Z1 P1 Z2 P2)) (T:=26) f0 p0 λQ1 V1 W1 J1 R1 N1 _ f=>?_)
 have R2:=bj R1
 refine Y13 f N1 (.cells #[iB 0,S [],iL 0,S [],S [],Sn] 31 (0,0)) λQ2 W2 N2 _ f=>eT (RR (Z f (Y32 (cs:=(lTD0 d0 Z1 P1 Z2 P2)) rfl (ad:=⟨Q1,0,none⟩) (λj v h=>N2.cell (R2 j v h))) λ_ f=>Y f 1 λ_ f=>?_))
 obtain⟨X1,l1,F1⟩:=bS hF
 rcases X1 with X2|X3
 ·refine aR f N2 (cC n _ (GL.mono J1 hG) _ d0 (TD0.shutx (x:=d0) (B1.mono J1) (B2.mono J1)) (2:Int) (121:Int) d1 (.inl X2) l1) kr (λ_=>by kernel_rfl) λV2 W3 J2 N3=>cr (ba f ?_)
  cases sI F1
  exact⟨V2,(J1.trans J2),(N3.dropN 1),rfl⟩
 ·refine Y17 f N2 (OkX.ok (cC n _ (GL.mono J1 hG) _ d0 (TD0.shutx (x:=d0) (B1.mono J1) (B2.mono J1)) (2:Int) (121:Int) d1 (.inr X3) l1)) λ_ V3 W4 J3 N4 ej _ f=>?_
  obtain⟨Z3,P3,rfl,B3⟩:=ej
  refine Ye f 1 λ_ f=>an ?_
  obtain⟨gN,ec,F2⟩:=bS F1
  refine bD (λa_26 W11=>∃G1:Unit,gN=.nx G1∧∃V7:Mem,V3.le V7∧Frm 38 [(4,pP Q2),(5,sL Z3 X3 P3)] a_26∧Hp w0 V7 ((oC Q2 #[iB 0,S [],iL 0,S [],S [],Sn] 31)::H) W11) ?_ ?_
  ·refine aA (Y f 1 λ_ f=>?_)
   obtain⟨X4,l2,F3⟩:=bS ec
   obtain⟨C1,cZ,jC,-,D1,R3⟩:=Sli.at_ B3 l2
   obtain⟨Z4,P4,Z5,P5,rfl,B4,B5⟩:=TD0.opn D1
   refine Z f (Y30 jC rfl (len:=X3.length) (cap:=P3) (k:=.i64) (i:=(0:Int)) (e:=26) (sz:=6) (ax l2) (aw l2)) λ_ f=>Z f (Y32 (cs:=(lTD0 X4 Z4 P4 Z5 P5)) rfl (ad:=C1.add ((0:Int).toNat*6)) (λj v h=>N4.cell (R3 j v h))) λ_ f=>?_
   obtain⟨X5,l3,F4⟩:=bS F3
   refine Y19 f N4 (dx n _ (GL.mono (J1.trans J3) hG) _ X4 (TD0.shutx (x:=X4) B4 B5) X5 l3) λW5 N5 _ f=>Y f 1 λ_ f=>?_
   rcases cE F4 with⟨B6,F5⟩|⟨B6,F15⟩
   ·have f:=f.st 13 (cB B6)
    refine Y f 1 λ_ f=>?_
    obtain⟨X6,l4,F6⟩:=bS F5
    obtain⟨C2,gW,e_2,-,D2,R4⟩:=Sli.at_ B3 l4
    obtain⟨Z6,P6,Z7,P7,rfl,B7,B8⟩:=TD0.opn D2
    refine Z f (Y30 e_2 rfl (len:=X3.length) (cap:=P3) (k:=.i64) (i:=(1:Int)) (e:=26) (sz:=6) (ax l4) (aw l4)) λ_ f=>Y f 1 λ_ f=>Y16 f N5 R4 0 rfl λ_ f=>Y f 3 λ_ f=>?_
    rcases cE F6 with⟨B9,F7⟩|⟨B9,F13⟩
    ·have U2:=dI.1 B9
     have f:=f.st 20 (cB B9)
     refine Y f 1 λ_ f=>?_
     obtain⟨X7,l5,F8⟩:=bS F7
     obtain⟨C3,my,e_3,-,D3,R5⟩:=Sli.at_ B3 l5
     obtain⟨Z8,P8,Z9,P9,rfl,B10,B11⟩:=TD0.opn D3
     refine Z f (Y30 e_3 rfl (len:=X3.length) (cap:=P3) (k:=.i64) (i:=(1:Int)) (e:=26) (sz:=6) (ax l5) (aw l5)) λ_ f=>Y f 1 λ_ f=>Y16 f N5 R5 3 rfl λ_ f=>?_
     obtain⟨X8,l6,F9⟩:=bS F8
     refine Y19 f N5 (mj n _ (GL.mono (J1.trans J3) hG) X7.aa X8 l6) λW6 N6 _ f=>Y f 2 λ_ f=>?_
     rcases cE F9 with⟨B12,F10⟩|⟨B12,F11⟩
     ·have f:=f.st 26 (cB B12)
      refine Y19 f N6 (bk _ (121:Int) d1) λW7 N7 _ f=>eT ?_
      exact⟨(),(sI F10).symm,V3,(mR _),f.kp,N7⟩
     ·have f:=f.st 26 (cB B12)
      refine aR f N6 (bw _ (121:Int) d1) kr (λ_=>by kernel_rfl) λV4 W8 J4 N8=>?_
      have F12:=bF F11 F2
      refine cr (cr (ba f ?_))
      cases sI F12
      exact⟨V4,((J1.trans J3).trans J4),(N8.dropN 1),rfl⟩
    ·have U5:=aq dI B9
     have f:=f.st 20 (cB B9)
     refine Y f 7 λ_ f=>aR f N5 (bw _ (121:Int) d1) kr (λ_=>by kernel_rfl) λV5 W9 J5 N9=>?_
     have F14:=bF F13 F2
     refine cr (cr (ba f ?_))
     cases sI F14
     exact⟨V5,((J1.trans J3).trans J5),(N9.dropN 1),rfl⟩
   ·have f:=f.st 13 (cB B6)
    refine Y f 14 λ_ f=>aR f N5 (bw _ (121:Int) d1) kr (λ_=>by kernel_rfl) λV6 W10 J6 N10=>?_
    have F16:=bF F15 F2
    refine cr (cr (ba f ?_))
    cases sI F16
    exact⟨V6,((J1.trans J3).trans J6),(N10.dropN 1),rfl⟩
  ·rintro a_26 W11 ⟨G1,rfl,V7,J7,f,N11⟩
   refine aK (an (mx 9 N11 kr kr λW12 N12=>cb (v:=sL Z3 X3 P3) f kr kr rfl rfl kr λ_ f=>?_))
   obtain⟨X9,l7,F17⟩:=bS F2
   obtain⟨C4,c_4,e_4,-,D4,R6⟩:=Sli.at_ (B3.mono J7) l7
   obtain⟨Z10,P10,Z11,P11,rfl,B13,B14⟩:=TD0.opn D4
   refine cb (v:=Pa (C4.add ((0:Int).toNat*6))) f kr kr rfl rfl (Y30 e_4 rfl (len:=X3.length) (cap:=P3) (k:=.i64) (i:=(0:Int)) (e:=26) (sz:=6) (ax l7) (aw l7)) λ_ f=>cb (v:=Pa ((C4.add ((0:Int).toNat*6)).add 3)) f kr kr rfl rfl kr λ_ f=>cb (v:=S X9.aa) f kr kr rfl rfl (Y31 (v:=S X9.aa) rfl (ad:=(C4.add ((0:Int).toNat*6)).add 3) (N12.cell (R6 3 _ rfl))) λ_ f=>cb (v:=sL Z3 X3 P3) f kr kr rfl rfl kr λ_ f=>?_
   obtain⟨X10,l8,F18⟩:=bS F17
   obtain⟨C5,c_5,e_5,-,D5,R7⟩:=Sli.at_ (B3.mono J7) l8
   obtain⟨Z12,P12,Z13,P13,rfl,B15,B16⟩:=TD0.opn D5
   refine cb (v:=Pa (C5.add ((1:Int).toNat*6))) f kr kr rfl rfl (Y30 e_5 rfl (len:=X3.length) (cap:=P3) (k:=.i64) (i:=(1:Int)) (e:=26) (sz:=6) (ax l8) (aw l8)) λ_ f=>cb (v:=Pa ((C5.add ((1:Int).toNat*6)).add 3)) f kr kr rfl rfl kr λ_ f=>cb (v:=S X10.aa) f kr kr rfl rfl (Y31 (v:=S X10.aa) rfl (ad:=(C5.add ((1:Int).toNat*6)).add 3) (N12.cell (R7 3 _ rfl))) λ_ f=>cb (v:=.agg #[iB 4,S [],iL 0,S X9.aa,S X10.aa,Sn]) f kr kr rfl rfl kr λ_ f=>mG rfl (Ys [iB 4,S [],iL 0,S X9.aa,S X10.aa,Sn] #[iB 4,S [],iL 0,S X9.aa,S X10.aa,Sn] f N12 rfl rfl λW13 N13 _ f=>Er (cD f rfl (Y11 (cs:=[iB 4,S [],iL 0,S X9.aa,S X10.aa,Sn]) (ad:=⟨Q2,0,none⟩) f (am (N13.ownCell 0 rfl) 0 rfl)) ?_))
   cases sI F18
   exact⟨_,rfl,V7,((J1.trans J3).trans J7),(N13.dropN 1),⟨[iB 4,S [],iL 0,S X9.aa,S X10.aa,Sn],rfl,(TH0.shut Sli.nil)⟩⟩
def eq (n:Nat) (d0:TD0) (d1:Bs):Option (Sum (Int×Bs) TH0):=
 bif(decide (d0.ab=3)) then
  ((lw n d0.aa).bind λX1=>
  bif(decide (X1.2.2=0)) then
   (some (.inr (⟨(5:Int),([]:Bs),(0:Int),([]:Bs),([]:Bs),X1.1⟩:TH0)))
  else
   some (.inl (X1.2.2,d1)))
 else
  some (.inl ((121:Int),d1))
theorem iK (n:Nat) (M:Mem) (hG:GL M) (c0:Lv) (d0:TD0) (h0:Rep M (ar d0) c0) (d1:Bs) (r:Sum (Int×Bs) TH0) (hF:eq n d0 d1=some r):OkX Tryz.prog M 80 [.agg c0.toArray,S d1] 78 r (λr=>λM' v=>∃ (c0:Lv),v=.agg c0.toArray∧Rep M' (ao r) c0):=by
 unfold eq at hF
 intro M1 hM0 w0 H w p0
 replace hG:=GL.mono hM0 hG
 replace h0:=Rep.mono hM0 _ _ h0
 obtain⟨Z1,P1,Z2,P2,rfl,B1,B2⟩:=TD0.opn h0
 refine Re 27 Tryz.func80 rfl λa0 f0=>RR (Y14 (cs:=(aTD0 d0 Z1 P1 Z2 P2)) (T:=26) f0 p0 λQ1 V1 W1 J1 R1 N1 _ f=>?_)
 have R2:=bj R1
 refine Y13 f N1 (.cells #[iB 0,S [],iL 0,S [],S [],Sn] 31 (0,0)) λQ2 W2 N2 _ f=>eT (RR (Y f 1 λ_ f=>Y16 f N2 R2 0 rfl λ_ f=>Y f 2 λ_ f=>?_))
 rcases cE hF with⟨B3,F1⟩|⟨B3,F5⟩
 ·have U1:=dI.1 B3
  have f:=f.st 10 (cB B3)
  refine Y19 f N2 (bk _ (121:Int) d1) λW3 N3 _ f=>eT (RR (Y f 1 λ_ f=>Y16 f N3 R2 3 rfl λ_ f=>?_))
  obtain⟨X1,l1,F2⟩:=bS F1
  refine Y18 (E:=[]) (H:=((oC Q2 #[iB 0,S [],iL 0,S [],S [],Sn] 31)::H)) f N3 (sub_Lex_ok n _ (GL.mono J1 hG) d0.aa X1 l1) λ_ V2 mo W4 J2 N4 ej _ f=>?_
  obtain⟨Z3,P3,L1,rfl,rfl,D1⟩:=ej
  refine Ye f 7 λ_ f=>RR (Y f 4 λ_ f=>?_)
  rcases cE F2 with⟨B4,F3⟩|⟨B4,F4⟩
  ·have U2:=dI.1 B4
   have f:=f.st 21 (cB B4)
   refine Y19 f N4 (bk _ X1.2.2 d1) λW5 N5 _ f=>eT (RR (Y f 2 λ_ f=>?_))
   obtain⟨Z4,P4,V3,H1,J3,N6,B5⟩:=N5.rowSli (f:=ao) (xs:=X1.1) bg D1
   have f:=Frm.set f 26 (v:=.agg #[.int .i8 5,S [],.int .i64 0,S [],S [],.slice Z3 X1.1.length P3]) (v':=.agg #[.int .i8 5,S [],.int .i64 0,S [],S [],.slice Z4 X1.1.length P4]) (by kernel_rfl) (by rw[H1])
   refine Ys [iB 5,S [],iL 0,S [],S [],sL Z4 X1.1 P4] #[iB 5,S [],iL 0,S [],S [],sL Z4 X1.1 P4] f N6 rfl rfl λW6 N7 _ f=>Er (cD f rfl (Y11 (cs:=[iB 5,S [],iL 0,S [],S [],sL Z4 X1.1 P4]) (ad:=⟨Q2,0,none⟩) f (am (N7.ownCell 0 rfl) 0 rfl)) ?_)
   cases sI F3
   exact⟨_,rfl,V3,((J1.trans J2).trans J3),(N7.dropN 1),⟨[iB 5,S [],iL 0,S [],S [],sL Z4 X1.1 P4],rfl,(TH0.shut B5)⟩⟩
  ·have U3:=aq dI B4
   have f:=f.st 21 (cB B4)
   refine aR f N4 (bw _ X1.2.2 d1) kr (λ_=>by kernel_rfl) λV4 W7 J4 N8=>cr (ba f ?_)
   cases sI F4
   exact⟨V4,((J1.trans J2).trans J4),(N8.dropN 2),rfl⟩
 ·have U4:=aq dI B3
  have f:=f.st 10 (cB B3)
  refine aR f N2 (bw _ (121:Int) d1) kr (λ_=>by kernel_rfl) λV5 W8 J5 N9=>cr (ba f ?_)
  cases sI F5
  exact⟨V5,(J1.trans J5),(N9.dropN 1),rfl⟩
def er (n:Nat) (rec_syntax_expr:TD0→Bs→Option (Sum (Int×Bs) TH0)) (d0:TD0) (d1:Bs):Option (Sum (Int×Bs) TH0):=
 (cS n d0 (3:Int) (121:Int) d1).bind λX1=>
 (match X1 with
 |.inl X2=>some (.inl X2)
 |.inr X3=>(aQ X3 (0:Int)).bind λX4=>
  (cU n X4).bind λX5=>
  bif X5 then
   ((aQ X3 (0:Int)).bind λX6=>
   (cA n rec_syntax_expr X3 (1:Int) d1).bind λX7=>
   (match X7 with
   |.inl X8=>some (.inl X8)
   |.inr X9=>some (.inr (⟨(6:Int),([]:Bs),(0:Int),X6.aa,([]:Bs),X9⟩:TH0))))
  else
   some (.inl ((121:Int),d1)))
theorem iM (n:Nat) (rec_syntax_expr:TD0→Bs→Option (Sum (Int×Bs) TH0)) (hrec_syntax_expr: ∀ (M:Mem) (hG:GL M) (c0:Lv) (d0:TD0) (h0:Rep M (ar d0) c0) (d1:Bs) (r:Sum (Int×Bs) TH0) (hF:rec_syntax_expr d0 d1=some r),OkX Tryz.prog M 18 [.agg c0.toArray,S d1] 78 r (λr=>λM' v=>∃ (c0:Lv),v=.agg c0.toArray∧Rep M' (ao r) c0)) (M:Mem) (hG:GL M) (c0:Lv) (d0:TD0) (h0:Rep M (ar d0) c0) (d1:Bs) (r:Sum (Int×Bs) TH0) (hF:er n rec_syntax_expr d0 d1=some r):OkX Tryz.prog M 82 [.agg c0.toArray,S d1] 78 r (λr=>λM' v=>∃ (c0:Lv),v=.agg c0.toArray∧Rep M' (ao r) c0):=by
 unfold er at hF
 intro M1 hM0 w0 H w p0
 replace hG:=GL.mono hM0 hG
 replace h0:=Rep.mono hM0 _ _ h0
 obtain⟨Z1,P1,Z2,P2,rfl,B1,B2⟩:=TD0.opn h0
 refine Re 23 Tryz.func82 rfl λa0 f0=>RR (Y14 (cs:=(aTD0 d0 Z1 P1 Z2 P2)) (T:=26) f0 p0 λQ1 V1 W1 J1 R1 N1 _ f=>?_)
 have R2:=bj R1
 refine Y13 f N1 (.cells #[iB 0,S [],iL 0,S [],S [],Sn] 31 (0,0)) λQ2 W2 N2 _ f=>eT (RR (Z f (Y32 (cs:=(lTD0 d0 Z1 P1 Z2 P2)) rfl (ad:=⟨Q1,0,none⟩) (λj v h=>N2.cell (R2 j v h))) λ_ f=>Y f 1 λ_ f=>?_))
 obtain⟨X1,l1,F1⟩:=bS hF
 rcases X1 with X2|X3
 ·refine aR f N2 (cC n _ (GL.mono J1 hG) _ d0 (TD0.shutx (x:=d0) (B1.mono J1) (B2.mono J1)) (3:Int) (121:Int) d1 (.inl X2) l1) kr (λ_=>by kernel_rfl) λV2 W3 J2 N3=>cr (ba f ?_)
  cases sI F1
  exact⟨V2,(J1.trans J2),(N3.dropN 1),rfl⟩
 ·refine Y17 f N2 (OkX.ok (cC n _ (GL.mono J1 hG) _ d0 (TD0.shutx (x:=d0) (B1.mono J1) (B2.mono J1)) (3:Int) (121:Int) d1 (.inr X3) l1)) λ_ V3 W4 J3 N4 ej _ f=>?_
  obtain⟨Z3,P3,rfl,B3⟩:=ej
  refine Ye f 1 λ_ f=>RR (Y f 1 λ_ f=>?_)
  obtain⟨X4,l2,F2⟩:=bS F1
  obtain⟨C1,cZ,jC,-,D1,R3⟩:=Sli.at_ B3 l2
  obtain⟨Z4,P4,Z5,P5,rfl,B4,B5⟩:=TD0.opn D1
  refine Z f (Y30 jC rfl (len:=X3.length) (cap:=P3) (k:=.i64) (i:=(0:Int)) (e:=26) (sz:=6) (ax l2) (aw l2)) λ_ f=>Z f (Y32 (cs:=(lTD0 X4 Z4 P4 Z5 P5)) rfl (ad:=C1.add ((0:Int).toNat*6)) (λj v h=>N4.cell (R3 j v h))) λ_ f=>?_
  obtain⟨X5,l3,F3⟩:=bS F2
  refine Y19 f N4 (dx n _ (GL.mono (J1.trans J3) hG) _ X4 (TD0.shutx (x:=X4) B4 B5) X5 l3) λW5 N5 _ f=>Y f 1 λ_ f=>?_
  rcases cE F3 with⟨B6,F4⟩|⟨B6,F7⟩
  ·have f:=f.st 12 (cB B6)
   refine Y19 f N5 (bk _ (121:Int) d1) λW6 N6 _ f=>eT (an (dp (E:=[oC Q2 #[iB 0,S [],iL 0,S [],S [],Sn] 31]) (Hr:=(H)) [(0,true),(1,true),(2,true),(3,true),(4,true),(5,true),(6,false),(7,true),(8,false)] N6 kr kr rfl kr (Y0 default f 1 λ_ f=>?_)))
   obtain⟨X6,l4,F5⟩:=bS F4
   obtain⟨C2,gW,e_2,-,D2,R4⟩:=Sli.at_ B3 l4
   obtain⟨Z6,P6,Z7,P7,rfl,B7,B8⟩:=TD0.opn D2
   refine bz (v:=Pa (C2.add ((0:Int).toNat*6))) f kr kr rfl rfl (λ_ pq=>Y30 e_2 rfl (len:=X3.length) (cap:=P3) (k:=.i64) (i:=(0:Int)) (e:=26) (sz:=6) (ax l4) (aw l4)) λ_ f=>Y0 default f 1 λ_ f=>bz (v:=S X6.aa) f kr kr rfl rfl (λ_ pq=>Y31 (v:=S X6.aa) rfl (ad:=(C2.add ((0:Int).toNat*6)).add 3) (pq.cell (R4 3 _ rfl))) λ_ f=>Y0 default f 2 λ_ f=>bL (E:=[oC Q2 #[iB 0,S [],iL 0,S [],S [],Sn] 31]) λW7 N7=>?_
   obtain⟨X7,l5,F6⟩:=bS F5
   rcases X7 with X8|X9
   ·refine gi (E:=[]) (H:=((oC Q2 #[iB 0,S [],iL 0,S [],S [],Sn] 31)::H)) f N7 (bR n rec_syntax_expr hrec_syntax_expr _ (GL.mono (J1.trans J3) hG) Z3 P3 X3 B3 (1:Int) d1 (.inl X8) l5) kr (λ_=>by kernel_rfl) λV4 W8 J4 N8=>M_p f λ_ f=>cr (ba f ?_)
    cases sI F6
    exact⟨V4,((J1.trans J3).trans J4),(N8.dropN 1),rfl⟩
   ·refine Y18 (E:=[]) (H:=((oC Q2 #[iB 0,S [],iL 0,S [],S [],Sn] 31)::H)) f N7 (OkXH.ok (bR n rec_syntax_expr hrec_syntax_expr _ (GL.mono (J1.trans J3) hG) Z3 P3 X3 B3 (1:Int) d1 (.inr X9) l5)) λ_ V5 mo W9 J5 N9 jk _ f=>?_
    obtain⟨Z8,P8,L1,rfl,rfl,D3⟩:=jk
    refine ap rfl (dl (M1:=V5) (E:=[rO 31 6 Z8 X9 P8 L1,oC Q2 #[iB 0,S [],iL 0,S [],S [],Sn] 31]) J5 N9 (Y0 default f 1 λ_ f=>bL (E:=[rO 31 6 Z8 X9 P8 L1,oC Q2 #[iB 0,S [],iL 0,S [],S [],Sn] 31]) λW10 N10=>?_))
    obtain⟨Z9,P9,V6,H1,J6,N11,B9⟩:=N10.rowSli (f:=ao) (xs:=X9) bg D3
    have f:=Frm.set f 22 (v:=.agg #[.int .i8 6,S [],.int .i64 0,S X6.aa,S [],.slice Z8 X9.length P8]) (v':=.agg #[.int .i8 6,S [],.int .i64 0,S X6.aa,S [],.slice Z9 X9.length P9]) (by kernel_rfl) (by rw[H1])
    refine Ys [iB 6,S [],iL 0,S X6.aa,S [],sL Z9 X9 P9] #[iB 6,S [],iL 0,S X6.aa,S [],sL Z9 X9 P9] f N11 rfl rfl λW11 N12 _ f=>ap rfl (dl (M1:=V6) (E:=[oC Q2 #[iB 6,S [],iL 0,S X6.aa,S [],sL Z9 X9 P9] 31]) (J5.trans J6) N12 (dL rfl λW12 N13=>aK (wp_ret (cD f rfl (Y11 (cs:=[iB 6,S [],iL 0,S X6.aa,S [],sL Z9 X9 P9]) (ad:=⟨Q2,0,none⟩) f (am (N13.ownCell 0 rfl) 0 rfl)) ?_))))
    cases sI F6
    exact⟨_,rfl,V6,(((J1.trans J3).trans J5).trans J6),(N13.dropN 1),⟨[iB 6,S [],iL 0,S X6.aa,S [],sL Z9 X9 P9],rfl,(TH0.shut B9)⟩⟩
  ·have f:=f.st 12 (cB B6)
   refine aR f N5 (bw _ (121:Int) d1) kr (λ_=>by kernel_rfl) λV7 W13 J7 N14=>cr (ba f ?_)
   cases sI F7
   exact⟨V7,((J1.trans J3).trans J7),(N14.dropN 1),rfl⟩
def eu (n:Nat) (rec_syntax_expr:TD0→Bs→Option (Sum (Int×Bs) TH0)) (d0:TD0) (d1:Bs):Option (Sum (Int×Bs) TH0):=
 (cS n d0 (2:Int) (121:Int) d1).bind λX1=>
 (match X1 with
 |.inl X2=>some (.inl X2)
 |.inr X3=>(aQ X3 (0:Int)).bind λX4=>
  (gh n X4).bind λX5=>
  bif X5 then
   ((aQ X3 (0:Int)).bind λX6=>
   (cA n rec_syntax_expr X3 (1:Int) d1).bind λX7=>
   (match X7 with
   |.inl X8=>some (.inl X8)
   |.inr X9=>some (.inr (⟨(7:Int),X6.aa,(0:Int),([]:Bs),([]:Bs),X9⟩:TH0))))
  else
   some (.inl ((121:Int),d1)))
theorem iN (n:Nat) (rec_syntax_expr:TD0→Bs→Option (Sum (Int×Bs) TH0)) (hrec_syntax_expr: ∀ (M:Mem) (hG:GL M) (c0:Lv) (d0:TD0) (h0:Rep M (ar d0) c0) (d1:Bs) (r:Sum (Int×Bs) TH0) (hF:rec_syntax_expr d0 d1=some r),OkX Tryz.prog M 18 [.agg c0.toArray,S d1] 78 r (λr=>λM' v=>∃ (c0:Lv),v=.agg c0.toArray∧Rep M' (ao r) c0)) (M:Mem) (hG:GL M) (c0:Lv) (d0:TD0) (h0:Rep M (ar d0) c0) (d1:Bs) (r:Sum (Int×Bs) TH0) (hF:eu n rec_syntax_expr d0 d1=some r):OkX Tryz.prog M 83 [.agg c0.toArray,S d1] 78 r (λr=>λM' v=>∃ (c0:Lv),v=.agg c0.toArray∧Rep M' (ao r) c0):=by
 unfold eu at hF
 intro M1 hM0 w0 H w p0
 replace hG:=GL.mono hM0 hG
 replace h0:=Rep.mono hM0 _ _ h0
 obtain⟨Z1,P1,Z2,P2,rfl,B1,B2⟩:=TD0.opn h0
 refine Re 23 Tryz.func83 rfl λa0 f0=>RR (Y14 (cs:=(aTD0 d0 Z1 P1 Z2 P2)) (T:=26) f0 p0 λQ1 V1 W1 J1 R1 N1 _ f=>?_)
 have R2:=bj R1
 refine Y13 f N1 (.cells #[iB 0,S [],iL 0,S [],S [],Sn] 31 (0,0)) λQ2 W2 N2 _ f=>eT (RR (Z f (Y32 (cs:=(lTD0 d0 Z1 P1 Z2 P2)) rfl (ad:=⟨Q1,0,none⟩) (λj v h=>N2.cell (R2 j v h))) λ_ f=>Y f 1 λ_ f=>?_))
 obtain⟨X1,l1,F1⟩:=bS hF
 rcases X1 with X2|X3
 ·refine aR f N2 (cC n _ (GL.mono J1 hG) _ d0 (TD0.shutx (x:=d0) (B1.mono J1) (B2.mono J1)) (2:Int) (121:Int) d1 (.inl X2) l1) kr (λ_=>by kernel_rfl) λV2 W3 J2 N3=>cr (ba f ?_)
  cases sI F1
  exact⟨V2,(J1.trans J2),(N3.dropN 1),rfl⟩
 ·refine Y17 f N2 (OkX.ok (cC n _ (GL.mono J1 hG) _ d0 (TD0.shutx (x:=d0) (B1.mono J1) (B2.mono J1)) (2:Int) (121:Int) d1 (.inr X3) l1)) λ_ V3 W4 J3 N4 ej _ f=>?_
  obtain⟨Z3,P3,rfl,B3⟩:=ej
  refine Ye f 1 λ_ f=>RR (Y f 1 λ_ f=>?_)
  obtain⟨X4,l2,F2⟩:=bS F1
  obtain⟨C1,cZ,jC,-,D1,R3⟩:=Sli.at_ B3 l2
  obtain⟨Z4,P4,Z5,P5,rfl,B4,B5⟩:=TD0.opn D1
  refine Z f (Y30 jC rfl (len:=X3.length) (cap:=P3) (k:=.i64) (i:=(0:Int)) (e:=26) (sz:=6) (ax l2) (aw l2)) λ_ f=>Z f (Y32 (cs:=(lTD0 X4 Z4 P4 Z5 P5)) rfl (ad:=C1.add ((0:Int).toNat*6)) (λj v h=>N4.cell (R3 j v h))) λ_ f=>?_
  obtain⟨X5,l3,F3⟩:=bS F2
  refine Y19 f N4 (kf n _ (GL.mono (J1.trans J3) hG) _ X4 (TD0.shutx (x:=X4) B4 B5) X5 l3) λW5 N5 _ f=>Y f 1 λ_ f=>?_
  rcases cE F3 with⟨B6,F4⟩|⟨B6,F7⟩
  ·have f:=f.st 12 (cB B6)
   refine Y19 f N5 (bk _ (121:Int) d1) λW6 N6 _ f=>eT (an (dp (E:=[oC Q2 #[iB 0,S [],iL 0,S [],S [],Sn] 31]) (Hr:=(H)) [(0,true),(1,true),(2,true),(3,true),(4,true),(5,true),(6,false),(7,true),(8,false)] N6 kr kr rfl kr (Y0 default f 1 λ_ f=>?_)))
   obtain⟨X6,l4,F5⟩:=bS F4
   obtain⟨C2,gW,e_2,-,D2,R4⟩:=Sli.at_ B3 l4
   obtain⟨Z6,P6,Z7,P7,rfl,B7,B8⟩:=TD0.opn D2
   refine bz (v:=Pa (C2.add ((0:Int).toNat*6))) f kr kr rfl rfl (λ_ pq=>Y30 e_2 rfl (len:=X3.length) (cap:=P3) (k:=.i64) (i:=(0:Int)) (e:=26) (sz:=6) (ax l4) (aw l4)) λ_ f=>Y0 default f 1 λ_ f=>bz (v:=S X6.aa) f kr kr rfl rfl (λ_ pq=>Y31 (v:=S X6.aa) rfl (ad:=(C2.add ((0:Int).toNat*6)).add 3) (pq.cell (R4 3 _ rfl))) λ_ f=>Y0 default f 2 λ_ f=>bL (E:=[oC Q2 #[iB 0,S [],iL 0,S [],S [],Sn] 31]) λW7 N7=>?_
   obtain⟨X7,l5,F6⟩:=bS F5
   rcases X7 with X8|X9
   ·refine gi (E:=[]) (H:=((oC Q2 #[iB 0,S [],iL 0,S [],S [],Sn] 31)::H)) f N7 (bR n rec_syntax_expr hrec_syntax_expr _ (GL.mono (J1.trans J3) hG) Z3 P3 X3 B3 (1:Int) d1 (.inl X8) l5) kr (λ_=>by kernel_rfl) λV4 W8 J4 N8=>M_p f λ_ f=>cr (ba f ?_)
    cases sI F6
    exact⟨V4,((J1.trans J3).trans J4),(N8.dropN 1),rfl⟩
   ·refine Y18 (E:=[]) (H:=((oC Q2 #[iB 0,S [],iL 0,S [],S [],Sn] 31)::H)) f N7 (OkXH.ok (bR n rec_syntax_expr hrec_syntax_expr _ (GL.mono (J1.trans J3) hG) Z3 P3 X3 B3 (1:Int) d1 (.inr X9) l5)) λ_ V5 mo W9 J5 N9 jk _ f=>?_
    obtain⟨Z8,P8,L1,rfl,rfl,D3⟩:=jk
    refine ap rfl (dl (M1:=V5) (E:=[rO 31 6 Z8 X9 P8 L1,oC Q2 #[iB 0,S [],iL 0,S [],S [],Sn] 31]) J5 N9 (Y0 default f 1 λ_ f=>bL (E:=[rO 31 6 Z8 X9 P8 L1,oC Q2 #[iB 0,S [],iL 0,S [],S [],Sn] 31]) λW10 N10=>?_))
    obtain⟨Z9,P9,V6,H1,J6,N11,B9⟩:=N10.rowSli (f:=ao) (xs:=X9) bg D3
    have f:=Frm.set f 22 (v:=.agg #[.int .i8 7,S X6.aa,.int .i64 0,S [],S [],.slice Z8 X9.length P8]) (v':=.agg #[.int .i8 7,S X6.aa,.int .i64 0,S [],S [],.slice Z9 X9.length P9]) (by kernel_rfl) (by rw[H1])
    refine Ys [iB 7,S X6.aa,iL 0,S [],S [],sL Z9 X9 P9] #[iB 7,S X6.aa,iL 0,S [],S [],sL Z9 X9 P9] f N11 rfl rfl λW11 N12 _ f=>ap rfl (dl (M1:=V6) (E:=[oC Q2 #[iB 7,S X6.aa,iL 0,S [],S [],sL Z9 X9 P9] 31]) (J5.trans J6) N12 (dL rfl λW12 N13=>aK (wp_ret (cD f rfl (Y11 (cs:=[iB 7,S X6.aa,iL 0,S [],S [],sL Z9 X9 P9]) (ad:=⟨Q2,0,none⟩) f (am (N13.ownCell 0 rfl) 0 rfl)) ?_))))
    cases sI F6
    exact⟨_,rfl,V6,(((J1.trans J3).trans J5).trans J6),(N13.dropN 1),⟨[iB 7,S X6.aa,iL 0,S [],S [],sL Z9 X9 P9],rfl,(TH0.shut B9)⟩⟩
  ·have f:=f.st 12 (cB B6)
   refine aR f N5 (bw _ (121:Int) d1) kr (λ_=>by kernel_rfl) λV7 W13 J7 N14=>cr (ba f ?_)
   cases sI F7
   exact⟨V7,((J1.trans J3).trans J7),(N14.dropN 1),rfl⟩
def ew (n:Nat) (rec_syntax_expr:TD0→Bs→Option (Sum (Int×Bs) TH0)) (d0:TD0) (d1:Bs):Option (Sum (Int×Bs) TH0):=
 (cS n d0 (2:Int) (121:Int) d1).bind λX1=>
 (match X1 with
 |.inl X2=>some (.inl X2)
 |.inr X3=>(cA n rec_syntax_expr X3 (0:Int) d1).bind λX4=>
  (match X4 with
  |.inl X5=>some (.inl X5)
  |.inr X6=>some (.inr (⟨(8:Int),([]:Bs),(0:Int),([]:Bs),([]:Bs),X6⟩:TH0))))
theorem iO (n:Nat) (rec_syntax_expr:TD0→(List UInt8)→Option (Sum (Int×List UInt8) TH0)) (hrec_syntax_expr: ∀ (M:Mem) (hG:GL M) (c0:List Value) (d0:TD0) (h0:Rep M (ar d0) c0) (d1:List UInt8) (r:Sum (Int×List UInt8) TH0) (hF:rec_syntax_expr d0 d1=some r),OkX Tryz.prog M 18 [.agg c0.toArray,S d1] 78 r (λr=>λM' v=>∃ (c0:List Value),v=.agg c0.toArray∧Rep M' (ao r) c0)) (M:Mem) (hG:GL M) (c0:List Value) (d0:TD0) (h0:Rep M (ar d0) c0) (d1:List UInt8) (r:Sum (Int×List UInt8) TH0) (hF:ew n rec_syntax_expr d0 d1=some r):OkX Tryz.prog M 84 [.agg c0.toArray,S d1] 78 r (λr=>λM' v=>∃ (c0:List Value),v=.agg c0.toArray∧Rep M' (ao r) c0):=by
 unfold ew at hF
 intro M1 hM0 w0 H w p0
 replace hG:=GL.mono hM0 hG
 replace h0:=Rep.mono hM0 _ _ h0
 obtain⟨Z1,P1,Z2,P2,rfl,B1,B2⟩:=TD0.opn h0
 refine av 11 Tryz.func84 rfl rfl (by simp) λa0 f0=>RR (Y14 (cs:=#[iB d0.ab,bO d0.ah,iL d0.af,S d0.aa,sL Z1 d0.ac P1,sL Z2 d0.ae P2]) (T:=26) f0 p0 λQ1 V1 W1 J1 R1 N1 _ f=>?_)
 have R2:=bj R1
 refine Y13 f N1 (.cells #[iB 0,S [],iL 0,S [],S [],.slice none 0 0] 31 (0,0)) λQ2 W2 N2 _ f=>eT (RR (Z (v:=.agg #[iB d0.ab,bO d0.ah,iL d0.af,S d0.aa,sL Z1 d0.ac P1,sL Z2 d0.ae P2]) f (Y32 (cs:=[iB d0.ab,bO d0.ah,iL d0.af,S d0.aa,sL Z1 d0.ac P1,sL Z2 d0.ae P2]) rfl (ad:=⟨Q1,0,none⟩) (λj v h=>N2.cell (R2 j v h))) λ_ f=>Y f 1 λ_ f=>?_))
 obtain⟨X1,l1,F1⟩:=bS hF
 rcases X1 with X2|X3
 ·refine aR f N2 (cC n _ (GL.mono J1 hG) _ d0 (TD0.shutx (x:=d0) (B1.mono J1) (B2.mono J1)) (2:Int) (121:Int) d1 (.inl X2) l1) kr (λ_=>by kernel_rfl) λV2 W3 J2 N3=>cr (ba f ?_)
  obtain rfl:=sI F1
  exact⟨V2,(J1.trans J2),(N3.dropN 1),rfl⟩
 ·refine Y17 f N2 (OkX.ok (cC n _ (GL.mono J1 hG) _ d0 (TD0.shutx (x:=d0) (B1.mono J1) (B2.mono J1)) (2:Int) (121:Int) d1 (.inr X3) l1)) λ_ V3 W4 J3 N4 ej _ f=>?_
  obtain⟨Z3,P3,rfl,B3⟩:=ej
  refine Y f 1 λ_ f=>?_
  obtain⟨X4,l2,F2⟩:=bS F1
  rcases X4 with X5|X6
  ·refine gi (E:=[]) (H:=((oC Q2 #[iB 0,S [],iL 0,S [],S [],.slice none 0 0] 31)::H)) f N4 (bR n rec_syntax_expr hrec_syntax_expr _ (GL.mono (J1.trans J3) hG) Z3 P3 X3 B3 (0:Int) d1 (.inl X5) l2) kr (λ_=>by kernel_rfl) λV4 W5 J4 N5=>cr (ba f ?_)
   obtain rfl:=sI F2
   exact⟨V4,((J1.trans J3).trans J4),(N5.dropN 1),rfl⟩
  ·refine Y18 (E:=[]) (H:=((oC Q2 #[iB 0,S [],iL 0,S [],S [],.slice none 0 0] 31)::H)) f N4 (OkXH.ok (bR n rec_syntax_expr hrec_syntax_expr _ (GL.mono (J1.trans J3) hG) Z3 P3 X3 B3 (0:Int) d1 (.inr X6) l2)) λ_ V5 mo W6 J5 N6 jk _ f=>?_
   obtain⟨Z4,P4,L1,rfl,rfl,D1⟩:=jk
   refine Y f 1 λ_ f=>?_
   obtain⟨Z5,P5,V6,H1,J6,N7,B4⟩:=N6.rowSli (f:=ao) (xs:=X6) bg D1
   have f:=Frm.set f 10 (v:=.agg #[iB 8,S [],iL 0,S [],S [],sL Z4 X6 P4]) (v':=.agg #[iB 8,S [],iL 0,S [],S [],sL Z5 X6 P5]) kr (by rw[H1])
   refine Y27 (vs:=[iB 8,S [],iL 0,S [],S [],sL Z5 X6 P5]) (j:=0) f N7 rfl rfl (by simp[Value.oneCell',S]) (by simp) (by decide) (cs':=#[iB 8,S [],iL 0,S [],S [],sL Z5 X6 P5]) λW7 N8 _ f=>eT (wp_ret (cD f rfl (Y11 (cs:=[iB 8,S [],iL 0,S [],S [],sL Z5 X6 P5]) (ad:=⟨Q2,0,none⟩) f (am (N8.ownCell 0 rfl) 0 rfl)) ?_))
   obtain rfl:=sI F2
   exact⟨_,rfl,V6,(((J1.trans J3).trans J5).trans J6),(N8.dropN 1),⟨[iB 8,S [],iL 0,S [],S [],sL Z5 X6 P5],rfl,(TH0.shut B4)⟩⟩
def eP (n:Nat) (rec_syntax_expr:TD0→Bs→Option (Sum (Int×Bs) TH0)) (d0:TD0) (d1:Bs):Option (Sum (Int×Bs) TH0):=
 bif(decide (d0.ab=3)) then
  ((gh n d0).bind λX1=>
  bif X1 then
   (some (.inr (⟨(0:Int),d0.aa,(0:Int),([]:Bs),([]:Bs),([]:List TH0)⟩:TH0)))
  else
   some (.inl ((121:Int),d1)))
 else
  bif(decide (d0.ab=2)) then
   (some (.inr (⟨(1:Int),([]:Bs),d0.af,([]:Bs),([]:Bs),([]:List TH0)⟩:TH0)))
  else
   bif(decide (d0.ab=4)) then
    (bif(decide (((d0.ac.length:Nat):Int)≤8)) then
     ((cA n rec_syntax_expr d0.ac (0:Int) d1).bind λX2=>
     (match X2 with
     |.inl X3=>some (.inl X3)
     |.inr X4=>some (.inr (⟨(2:Int),([]:Bs),(0:Int),([]:Bs),([]:Bs),X4⟩:TH0))))
    else
     some (.inl ((3:Int),d1)))
   else
    ((bif(decide (d0.ab=5)) then
     (bif(decide (((d0.ae.length:Nat):Int)=1)) then
      (some (.nx ()))
     else
      ((some (.inl ((121:Int),d1)):Option (Sum (Int×Bs) TH0))).map Lp.br)
      else
       ((some (.inl ((121:Int),d1)):Option (Sum (Int×Bs) TH0))).map Lp.br:Option (Lp Unit (Sum (Int×Bs) TH0)))).bind λj=>joinF j λG1=>
    (aQ d0.ae (0:Int)).bind λX5=>
    (ib n).bind λX6=>
    bif(decide (X5=[82,101,102])) then
     ((aL n d1 X5).bind λX7=>
     (aQ d0.ac (0:Int)).bind λX8=>
     (aL n d1 X5).bind λX9=>
     (eo n X8 X9).bind λX10=>
     (match X10 with
     |.inl X11=>some (.inl X11)
     |.inr X12=>some (.inr X12)))
    else
     bif(decide (X5=[71,101,116,65,116,116])) then
      ((aL n d1 X5).bind λX13=>
      (aQ d0.ac (0:Int)).bind λX14=>
      (aL n d1 X5).bind λX15=>
      (ep n X14 X15).bind λX16=>
      (match X16 with
      |.inl X17=>some (.inl X17)
      |.inr X18=>some (.inr X18)))
     else
      bif(decide (X5=[83,117,98])) then
       ((aL n d1 X5).bind λX19=>
       (aQ d0.ac (0:Int)).bind λX20=>
       (aL n d1 X5).bind λX21=>
       (eq n X20 X21).bind λX22=>
       (match X22 with
       |.inl X23=>some (.inl X23)
       |.inr X24=>some (.inr X24)))
      else
       bif(decide (X5=[73,102])) then
        ((aL n d1 X5).bind λX25=>
        (aQ d0.ac (0:Int)).bind λX26=>
        (aL n d1 X5).bind λX27=>
        (er n rec_syntax_expr X26 X27).bind λX28=>
        (match X28 with
        |.inl X29=>some (.inl X29)
        |.inr X30=>some (.inr X30)))
       else
        bif(decide (X5=[74,111,105,110])) then
         ((aL n d1 X5).bind λX31=>
         (aQ d0.ac (0:Int)).bind λX32=>
         (aL n d1 X5).bind λX33=>
         (eu n rec_syntax_expr X32 X33).bind λX34=>
         (match X34 with
         |.inl X35=>some (.inl X35)
         |.inr X36=>some (.inr X36)))
        else
         bif(decide (X5=[83,101,108,101,99,116])) then
          ((aL n d1 X5).bind λX37=>
          (aQ d0.ac (0:Int)).bind λX38=>
          (aL n d1 X5).bind λX39=>
          (ew n rec_syntax_expr X38 X39).bind λX40=>
          (match X40 with
          |.inl X41=>some (.inl X41)
          |.inr X42=>some (.inr X42)))
         else
          (aL n d1 X5).bind λX43=>
          some (.inl ((121:Int),X43))
set_option maxRecDepth 20000 in
theorem lW (n:Nat) (rec_syntax_expr:TD0→(List UInt8)→Option (Sum (Int×List UInt8) TH0)) (hrec_syntax_expr: ∀ (M:Mem) (hG:GL M) (c0:List Value) (d0:TD0) (h0:Rep M (ar d0) c0) (d1:List UInt8) (r:Sum (Int×List UInt8) TH0) (hF:rec_syntax_expr d0 d1=some r),OkX Tryz.prog M 18 [.agg c0.toArray,S d1] 78 r (λr=>λM' v=>∃ (c0:List Value),v=.agg c0.toArray∧Rep M' (ao r) c0)) (M:Mem) (hG:GL M) (c0:List Value) (d0:TD0) (h0:Rep M (ar d0) c0) (d1:List UInt8) (r:Sum (Int×List UInt8) TH0) (hF:eP n rec_syntax_expr d0 d1=some r):OkX Tryz.prog M 18 [.agg c0.toArray,S d1] 78 r (λr=>λM' v=>∃ (c0:List Value),v=.agg c0.toArray∧Rep M' (ao r) c0):=by
 unfold eP at hF
 intro M1 hM0 w0 H w p0
 replace hG:=GL.mono hM0 hG
 replace h0:=Rep.mono hM0 _ _ h0
 obtain⟨Z1,P1,Z2,P2,rfl,B1,B2⟩:=TD0.opn h0
 refine av 72 Tryz.func18 rfl rfl (by simp) λa0 f0=>RR (Y14 (cs:=#[iB d0.ab,bO d0.ah,iL d0.af,S d0.aa,sL Z1 d0.ac P1,sL Z2 d0.ae P2]) (T:=26) f0 p0 λQ1 V1 W1 J1 R1 N1 _ f=>?_)
 have R2:=bj R1
 refine Y13 f N1 (.cells #[iB 0,S [],iL 0,S [],S [],.slice none 0 0] 31 (0,0)) λQ2 W2 N2 _ f=>eT (an (RR (Y f 1 λ_ f=>Y16 f N2 R2 0 rfl λ_ f=>eT (wp_block (RR (Y f 2 λ_ f=>eT (RcF f hF (λB3 F1=>?_) λB3 F5=>?_)))))))
 ·have U1:=dI.1 B3
  refine RR (Z (v:=.agg #[iB d0.ab,bO d0.ah,iL d0.af,S d0.aa,sL Z1 d0.ac P1,sL Z2 d0.ae P2]) f (Y32 (cs:=[iB d0.ab,bO d0.ah,iL d0.af,S d0.aa,sL Z1 d0.ac P1,sL Z2 d0.ae P2]) rfl (ad:=⟨Q1,0,none⟩) (λj v h=>N2.cell (R2 j v h))) λ_ f=>?_)
  obtain⟨X1,l1,F2⟩:=bS F1
  refine Y19 f N2 (kf n _ (GL.mono J1 hG) _ d0 (TD0.shutx (x:=d0) (B1.mono J1) (B2.mono J1)) X1 l1) λW3 N3 _ f=>Y f 1 λ_ f=>?_
  rcases cE F2 with⟨B4,F3⟩|⟨B4,F4⟩
  ·have f:=f.st 13 (cB B4)
   refine Y19 f N3 (bk _ (121:Int) d1) λW4 N4 _ f=>eT (RR (Y f 1 λ_ f=>Y16 f N4 R2 3 rfl λ_ f=>Y f 1 λ_ f=>Y27 (vs:=[iB 0,S d0.aa,iL 0,S [],S [],.slice none 0 0]) (j:=0) f N4 rfl rfl (by simp[Value.oneCell',S]) (by simp) (by decide) (cs':=#[iB 0,S d0.aa,iL 0,S [],S [],.slice none 0 0]) λW5 N5 _ f=>eT (wp_ret (ed (bC (cD f rfl (Y11 (cs:=[iB 0,S d0.aa,iL 0,S [],S [],.slice none 0 0]) (ad:=⟨Q2,0,none⟩) f (am (N5.ownCell 0 rfl) 0 rfl)) ?_))))))
   obtain rfl:=sI F3
   exact⟨_,rfl,V1,J1,(N5.dropN 1),⟨[iB 0,S d0.aa,iL 0,S [],S [],.slice none 0 0],rfl,(TH0.shut Sli.nil)⟩⟩
  ·have f:=f.st 13 (cB B4)
   refine aR f N3 (bw _ (121:Int) d1) kr (λ_=>by kernel_rfl) λV2 W6 J2 N6=>cr (nE (cr (ba f ?_)))
   obtain rfl:=sI F4
   exact⟨V2,(J1.trans J2),(N6.dropN 1),rfl⟩
 ·have U4:=aq dI B3
  refine RR (Y f 2 λ_ f=>eT (RcF f F5 (λB5 F6=>?_) λB5 F7=>?_))
  ·have U5:=dI.1 B5
   refine RR (Y f 1 λ_ f=>Y16 f N2 R2 2 rfl λ_ f=>Y f 1 λ_ f=>Y27 (vs:=[iB 1,S [],iL d0.af,S [],S [],.slice none 0 0]) (j:=0) f N2 rfl rfl (by simp[Value.oneCell',S]) (by simp) (by decide) (cs':=#[iB 1,S [],iL d0.af,S [],S [],.slice none 0 0]) λW7 N7 _ f=>eT (wp_ret (ed (bC (cD f rfl (Y11 (cs:=[iB 1,S [],iL d0.af,S [],S [],.slice none 0 0]) (ad:=⟨Q2,0,none⟩) f (am (N7.ownCell 0 rfl) 0 rfl)) ?_)))))
   obtain rfl:=sI F6
   exact⟨_,rfl,V1,J1,(N7.dropN 1),⟨[iB 1,S [],iL d0.af,S [],S [],.slice none 0 0],rfl,(TH0.shut Sli.nil)⟩⟩
  ·have U6:=aq dI B5
   refine RR (Y f 2 λ_ f=>eT (RcF f F7 (λB6 F8=>?_) λB6 F12=>?_))
   ·have U7:=dI.1 B6
    refine RR (Y f 1 λ_ f=>Y16 f N2 R2 4 rfl λ_ f=>Y f 3 λ_ f=>?_)
    rcases cE F8 with⟨B7,F9⟩|⟨B7,F11⟩
    ·have U8:=dI.1 B7
     have f:=f.st 29 (cB B7)
     refine Y19 f N2 (bk _ (3:Int) d1) λW8 N8 _ f=>eT (RR (Y f 1 λ_ f=>Y16 f N8 R2 4 rfl λ_ f=>Y f 1 λ_ f=>?_))
     obtain⟨X2,l2,F10⟩:=bS F9
     rcases X2 with X3|X4
     ·refine gi (E:=[]) (H:=((oC Q2 #[iB 0,S [],iL 0,S [],S [],.slice none 0 0] 31)::H)) f N8 (bR n rec_syntax_expr hrec_syntax_expr _ (GL.mono J1 hG) Z1 P1 d0.ac (B1.mono J1) (0:Int) d1 (.inl X3) l2) kr (λ_=>by kernel_rfl) λV3 W9 J3 N9=>cr (nE (cr (ba f ?_)))
      obtain rfl:=sI F10
      exact⟨V3,(J1.trans J3),(N9.dropN 1),rfl⟩
     ·refine Y18 (E:=[]) (H:=((oC Q2 #[iB 0,S [],iL 0,S [],S [],.slice none 0 0] 31)::H)) f N8 (OkXH.ok (bR n rec_syntax_expr hrec_syntax_expr _ (GL.mono J1 hG) Z1 P1 d0.ac (B1.mono J1) (0:Int) d1 (.inr X4) l2)) λ_ V4 mo W10 J4 N10 ej _ f=>?_
      obtain⟨Z3,P3,L1,rfl,rfl,D1⟩:=ej
      refine Y f 1 λ_ f=>?_
      obtain⟨Z4,P4,V5,H1,J5,N11,B8⟩:=N10.rowSli (f:=ao) (xs:=X4) bg D1
      have f:=Frm.set f 36 (v:=.agg #[iB 2,S [],iL 0,S [],S [],sL Z3 X4 P3]) (v':=.agg #[iB 2,S [],iL 0,S [],S [],sL Z4 X4 P4]) kr (by rw[H1])
      refine Y27 (vs:=[iB 2,S [],iL 0,S [],S [],sL Z4 X4 P4]) (j:=0) f N11 rfl rfl (by simp[Value.oneCell',S]) (by simp) (by decide) (cs':=#[iB 2,S [],iL 0,S [],S [],sL Z4 X4 P4]) λW11 N12 _ f=>eT (wp_ret (ed (bC (cD f rfl (Y11 (cs:=[iB 2,S [],iL 0,S [],S [],sL Z4 X4 P4]) (ad:=⟨Q2,0,none⟩) f (am (N12.ownCell 0 rfl) 0 rfl)) ?_))))
      obtain rfl:=sI F10
      exact⟨_,rfl,V5,((J1.trans J4).trans J5),(N12.dropN 1),⟨[iB 2,S [],iL 0,S [],S [],sL Z4 X4 P4],rfl,(TH0.shut B8)⟩⟩
    ·have U9:=aq dI B7
     have f:=f.st 29 (cB B7)
     refine aR f N2 (bw _ (3:Int) d1) kr (λ_=>by kernel_rfl) λV6 W12 J6 N13=>cr (nE (cr (ba f ?_)))
     obtain rfl:=sI F11
     exact⟨V6,(J1.trans J6),(N13.dropN 1),rfl⟩
   ·have U10:=aq dI B6
    refine wp_skip (dZ (aK (an ?_)))
    obtain⟨gN,ec,F13⟩:=bS F12
    refine bD (λa_38 W16=>∃G1:Unit,gN=.nx G1∧∃V9:Mem,V1.le V9∧Frm 72 [(1,S d1),(2,pP Q1),(4,pP Q2)] a_38∧Hp w0 V9 ((oC Q2 #[iB 0,S [],iL 0,S [],S [],.slice none 0 0] 31)::H) W16) ?_ ?_
    ·refine aA (Y f 1 λ_ f=>Y16 f N2 R2 0 rfl λ_ f=>Y f 2 λ_ f=>?_)
     rcases cE ec with⟨B9,F14⟩|⟨B9,F18⟩
     ·have U11:=dI.1 B9
      have f:=f.st 40 (cB B9)
      refine Y f 1 λ_ f=>Y16 f N2 R2 5 rfl λ_ f=>Y f 4 λ_ f=>?_
      rcases cE F14 with⟨B10,F15⟩|⟨B10,F16⟩
      ·have U12:=dI.1 B10
       have f:=f.st 45 (cB B10)
       refine Y19 f N2 (bk _ (121:Int) d1) λW13 N14 _ f=>eT ?_
       exact⟨(),(sI F15).symm,V1,(mR _),f.kp,N14⟩
      ·have U13:=aq dI B10
       have f:=f.st 45 (cB B10)
       refine aR f N2 (bw _ (121:Int) d1) kr (λ_=>by kernel_rfl) λV7 W14 J7 N15=>?_
       have F17:=bF F16 F13
       refine cr (cr (ba f ?_))
       obtain rfl:=sI F17
       exact⟨V7,(J1.trans J7),(N15.dropN 1),rfl⟩
     ·have U14:=aq dI B9
      have f:=f.st 40 (cB B9)
      refine Y f 6 λ_ f=>aR f N2 (bw _ (121:Int) d1) kr (λ_=>by kernel_rfl) λV8 W15 J8 N16=>?_
      have F19:=bF F18 F13
      refine cr (cr (ba f ?_))
      obtain rfl:=sI F19
      exact⟨V8,(J1.trans J8),(N16.dropN 1),rfl⟩
    ·rintro a_38 W16 ⟨G1,rfl,V9,J9,f,N17⟩
     refine aK (RR (Y f 1 λ_ f=>Y16 f N17 (fzu J9 R2) 5 rfl λ_ f=>?_))
     obtain⟨X5,l3,F20⟩:=bS F13
     obtain⟨C1,cZ,jC,-,D2,R3⟩:=Sli.at_ (B2.mono (J1.trans J9)) l3
     obtain rfl:cZ=[S X5]:=D2
     refine Z f (Y30 jC rfl (len:=d0.ae.length) (cap:=P2) (k:=.i64) (i:=(0:Int)) (e:=9) (sz:=1) (ax l3) (aw l3)) λ_ f=>Y16 f N17 R3 0 rfl λ_ f=>Y f 1 λ_ f=>eT (RR ?_)
     obtain⟨X6,l4,F21⟩:=bS F20
     refine Y17 f N17 (mu n _ X6 l4) λ_ V10 W17 J10 N18 jk _ f=>?_
     obtain⟨bk_1,rfl,hz_1⟩:=jk
     refine Y f 1 λ_ f=>?_
     obtain rfl:X6=callL:=sI (l4.symm.trans (nX n))
     refine Z (v:=.tuple #[fnV ((dz callL X5).getD none),bO (dz callL X5).isSome]) f (Y34 (ek:=S) (ev:=fnV) (m:=callL) (k:=X5) (z:=none) (kt:=9) (et:=51) rfl (strKey kr) (N18.mem _ _ hz_1)) λ_ f=>?_
     rcases cE F21 with⟨B11,F22⟩|⟨B11,F27⟩
     ·have e_2:=of_decide_eq_true B11
      have f:=Frm.set f 55 (v:=.tuple #[fnV ((dz callL X5).getD none),bO (dz callL X5).isSome]) (v':=.tuple #[.func (.func 75) #[] #[],bO true]) kr (by rw[e_2];rfl)
      refine Y f 5 λ_ f=>eT (RR (Y f 3 λ_ f=>?_))
      obtain⟨X7,l5,F23⟩:=bS F22
      refine Y19 f N18 (aJ n _ (GL.mono ((J1.trans J9).trans J10) hG) d1 X5 X7 l5) λW18 N19 _ f=>Y19 f N19 (bk _ (121:Int) X7) λW19 N20 _ f=>eT (an (dp (E:=[oC Q2 #[iB 0,S [],iL 0,S [],S [],.slice none 0 0] 31]) (Hr:=(H)) [(0,true),(1,true),(2,true),(3,true),(4,true),(5,true),(6,true),(7,true),(8,false),(9,false)] N20 kr kr rfl kr (Y0 default f 2 λ_ f=>bz (v:=sL Z1 d0.ac P1) f kr kr rfl rfl (λ_ pq=>Y31 (v:=sL Z1 d0.ac P1) rfl (ad:=(⟨Q1,0,none⟩:Addr).add 4) (pq.cell ((fzu (J9.trans J10) R2) 4 _ rfl))) λ_ f=>?_)))
      obtain⟨X8,l6,F24⟩:=bS F23
      obtain⟨C2,gW,e_3,-,D3,R4⟩:=Sli.at_ (B1.mono ((J1.trans J9).trans J10)) l6
      obtain⟨Z5,P5,Z6,P6,rfl,B12,B13⟩:=TD0.opn D3
      refine bz (v:=.pointer (some (C2.add ((0:Int).toNat*6)))) f kr kr rfl rfl (λ_ pq=>Y30 e_3 rfl (len:=d0.ac.length) (cap:=P1) (k:=.i64) (i:=(0:Int)) (e:=26) (sz:=6) (ax l6) (aw l6)) λ_ f=>bz (v:=.agg #[iB X8.ab,bO X8.ah,iL X8.af,S X8.aa,sL Z5 X8.ac P5,sL Z6 X8.ae P6]) f kr kr rfl rfl (λ_ pq=>Y32 (cs:=[iB X8.ab,bO X8.ah,iL X8.af,S X8.aa,sL Z5 X8.ac P5,sL Z6 X8.ae P6]) rfl (ad:=C2.add ((0:Int).toNat*6)) (λj v h=>pq.cell (R4 j v h))) λ_ f=>Y0 default f 2 λ_ f=>?_
      obtain⟨X9,l7,F25⟩:=bS F24
      refine dM (v:=S X9) f kr kr rfl rfl (λ_=>by kernel_rfl) (aJ n _ (GL.mono ((J1.trans J9).trans J10) hG) d1 X5 X9 l7) λ_ f=>bL (E:=[oC Q2 #[iB 0,S [],iL 0,S [],S [],.slice none 0 0] 31]) λW21 N22=>?_
      obtain⟨X10,l8,F26⟩:=bS F25
      rcases X10 with X11|X12
      ·refine aR f N22 (iI n _ (GL.mono ((J1.trans J9).trans J10) hG) _ X8 (TD0.shutx (x:=X8) B12 B13) X9 (.inl X11) l8) kr (λ_=>by kernel_rfl) λV11 W22 J11 N23=>M_p f λ_ f=>cr (ba f ?_)
       obtain rfl:=sI F26
       exact⟨V11,(((J1.trans J9).trans J10).trans J11),(N23.dropN 1),rfl⟩
      ·refine Y17 f N22 (OkX.ok (iI n _ (GL.mono ((J1.trans J9).trans J10) hG) _ X8 (TD0.shutx (x:=X8) B12 B13) X9 (.inr X12) l8)) λ_ V12 W23 J12 N24 q_3 _ f=>?_
       obtain⟨my,rfl,D4⟩:=q_3
       obtain⟨Z7,P7,rfl,B14⟩:=TH0.opn D4
       refine ap rfl (dl (M1:=V12) (E:=[oC Q2 #[iB 0,S [],iL 0,S [],S [],.slice none 0 0] 31]) J12 N24 (bL (E:=[oC Q2 #[iB 0,S [],iL 0,S [],S [],.slice none 0 0] 31]) λW24 N25=>Y27 (vs:=[iB X12.ab,S X12.aa,iL X12.af,S X12.ak,S X12.al,sL Z7 X12.fL P7]) (j:=0) f N25 rfl rfl (by simp[Value.oneCell',S]) (by simp) (by decide) (cs':=#[iB X12.ab,S X12.aa,iL X12.af,S X12.ak,S X12.al,sL Z7 X12.fL P7]) λW25 N26 _ f=>ap rfl (dl (M1:=V12) (E:=[oC Q2 #[iB X12.ab,S X12.aa,iL X12.af,S X12.ak,S X12.al,sL Z7 X12.fL P7] 31]) J12 N26 (dL rfl λW26 N27=>aK (wp_ret (cD f rfl (Y11 (cs:=[iB X12.ab,S X12.aa,iL X12.af,S X12.ak,S X12.al,sL Z7 X12.fL P7]) (ad:=⟨Q2,0,none⟩) f (am (N27.ownCell 0 rfl) 0 rfl)) ?_))))))
       obtain rfl:=sI F26
       exact⟨_,rfl,V12,(((J1.trans J9).trans J10).trans J12),(N27.dropN 1),⟨[iB X12.ab,S X12.aa,iL X12.af,S X12.ak,S X12.al,sL Z7 X12.fL P7],rfl,(TH0.shutx (x:=X12) B14)⟩⟩
     ·have e_4:=of_decide_eq_false B11
      rcases cE F27 with⟨B15,F28⟩|⟨B15,F33⟩
      ·have e_5:=of_decide_eq_true B15
       have f:=Frm.set f 55 (v:=.tuple #[fnV ((dz callL X5).getD none),bO (dz callL X5).isSome]) (v':=.tuple #[.func (.func 77) #[] #[],bO true]) kr (by rw[e_5];rfl)
       refine Y f 5 λ_ f=>eT (RR (Y f 3 λ_ f=>?_))
       obtain⟨X13,l9,F29⟩:=bS F28
       refine Y19 f N18 (aJ n _ (GL.mono ((J1.trans J9).trans J10) hG) d1 X5 X13 l9) λW27 N28 _ f=>Y19 f N28 (bk _ (121:Int) X13) λW28 N29 _ f=>eT (an (dp (E:=[oC Q2 #[iB 0,S [],iL 0,S [],S [],.slice none 0 0] 31]) (Hr:=(H)) [(0,true),(1,true),(2,true),(3,true),(4,true),(5,true),(6,true),(7,true),(8,false),(9,false)] N29 kr kr rfl kr (Y0 default f 2 λ_ f=>bz (v:=sL Z1 d0.ac P1) f kr kr rfl rfl (λ_ pq=>Y31 (v:=sL Z1 d0.ac P1) rfl (ad:=(⟨Q1,0,none⟩:Addr).add 4) (pq.cell ((fzu (J9.trans J10) R2) 4 _ rfl))) λ_ f=>?_)))
       obtain⟨X14,l10,F30⟩:=bS F29
       obtain⟨C3,c_4,e_6,-,D5,R5⟩:=Sli.at_ (B1.mono ((J1.trans J9).trans J10)) l10
       obtain⟨Z8,P8,Z9,P9,rfl,B16,B17⟩:=TD0.opn D5
       refine bz (v:=.pointer (some (C3.add ((0:Int).toNat*6)))) f kr kr rfl rfl (λ_ pq=>Y30 e_6 rfl (len:=d0.ac.length) (cap:=P1) (k:=.i64) (i:=(0:Int)) (e:=26) (sz:=6) (ax l10) (aw l10)) λ_ f=>bz (v:=.agg #[iB X14.ab,bO X14.ah,iL X14.af,S X14.aa,sL Z8 X14.ac P8,sL Z9 X14.ae P9]) f kr kr rfl rfl (λ_ pq=>Y32 (cs:=[iB X14.ab,bO X14.ah,iL X14.af,S X14.aa,sL Z8 X14.ac P8,sL Z9 X14.ae P9]) rfl (ad:=C3.add ((0:Int).toNat*6)) (λj v h=>pq.cell (R5 j v h))) λ_ f=>Y0 default f 2 λ_ f=>?_
       obtain⟨X15,l11,F31⟩:=bS F30
       refine dM (v:=S X15) f kr kr rfl rfl (λ_=>by kernel_rfl) (aJ n _ (GL.mono ((J1.trans J9).trans J10) hG) d1 X5 X15 l11) λ_ f=>bL (E:=[oC Q2 #[iB 0,S [],iL 0,S [],S [],.slice none 0 0] 31]) λW30 N31=>?_
       obtain⟨X16,l12,F32⟩:=bS F31
       rcases X16 with X17|X18
       ·refine aR f N31 (iJ n _ (GL.mono ((J1.trans J9).trans J10) hG) _ X14 (TD0.shutx (x:=X14) B16 B17) X15 (.inl X17) l12) kr (λ_=>by kernel_rfl) λV13 W31 J13 N32=>M_p f λ_ f=>cr (ba f ?_)
        obtain rfl:=sI F32
        exact⟨V13,(((J1.trans J9).trans J10).trans J13),(N32.dropN 1),rfl⟩
       ·refine Y17 f N31 (OkX.ok (iJ n _ (GL.mono ((J1.trans J9).trans J10) hG) _ X14 (TD0.shutx (x:=X14) B16 B17) X15 (.inr X18) l12)) λ_ V14 W32 J14 N33 q_4 _ f=>?_
        obtain⟨c_5,rfl,D6⟩:=q_4
        obtain⟨Z10,P10,rfl,B18⟩:=TH0.opn D6
        refine ap rfl (dl (M1:=V14) (E:=[oC Q2 #[iB 0,S [],iL 0,S [],S [],.slice none 0 0] 31]) J14 N33 (bL (E:=[oC Q2 #[iB 0,S [],iL 0,S [],S [],.slice none 0 0] 31]) λW33 N34=>Y27 (vs:=[iB X18.ab,S X18.aa,iL X18.af,S X18.ak,S X18.al,sL Z10 X18.fL P10]) (j:=0) f N34 rfl rfl (by simp[Value.oneCell',S]) (by simp) (by decide) (cs':=#[iB X18.ab,S X18.aa,iL X18.af,S X18.ak,S X18.al,sL Z10 X18.fL P10]) λW34 N35 _ f=>ap rfl (dl (M1:=V14) (E:=[oC Q2 #[iB X18.ab,S X18.aa,iL X18.af,S X18.ak,S X18.al,sL Z10 X18.fL P10] 31]) J14 N35 (dL rfl λW35 N36=>aK (wp_ret (cD f rfl (Y11 (cs:=[iB X18.ab,S X18.aa,iL X18.af,S X18.ak,S X18.al,sL Z10 X18.fL P10]) (ad:=⟨Q2,0,none⟩) f (am (N36.ownCell 0 rfl) 0 rfl)) ?_))))))
        obtain rfl:=sI F32
        exact⟨_,rfl,V14,(((J1.trans J9).trans J10).trans J14),(N36.dropN 1),⟨[iB X18.ab,S X18.aa,iL X18.af,S X18.ak,S X18.al,sL Z10 X18.fL P10],rfl,(TH0.shutx (x:=X18) B18)⟩⟩
      ·have e_7:=of_decide_eq_false B15
       rcases cE F33 with⟨B19,F34⟩|⟨B19,F39⟩
       ·have e_8:=of_decide_eq_true B19
        have f:=Frm.set f 55 (v:=.tuple #[fnV ((dz callL X5).getD none),bO (dz callL X5).isSome]) (v':=.tuple #[.func (.func 80) #[] #[],bO true]) kr (by rw[e_8];rfl)
        refine Y f 5 λ_ f=>eT (RR (Y f 3 λ_ f=>?_))
        obtain⟨X19,l13,F35⟩:=bS F34
        refine Y19 f N18 (aJ n _ (GL.mono ((J1.trans J9).trans J10) hG) d1 X5 X19 l13) λW36 N37 _ f=>Y19 f N37 (bk _ (121:Int) X19) λW37 N38 _ f=>eT (an (dp (E:=[oC Q2 #[iB 0,S [],iL 0,S [],S [],.slice none 0 0] 31]) (Hr:=(H)) [(0,true),(1,true),(2,true),(3,true),(4,true),(5,true),(6,true),(7,true),(8,false),(9,false)] N38 kr kr rfl kr (Y0 default f 2 λ_ f=>bz (v:=sL Z1 d0.ac P1) f kr kr rfl rfl (λ_ pq=>Y31 (v:=sL Z1 d0.ac P1) rfl (ad:=(⟨Q1,0,none⟩:Addr).add 4) (pq.cell ((fzu (J9.trans J10) R2) 4 _ rfl))) λ_ f=>?_)))
        obtain⟨X20,l14,F36⟩:=bS F35
        obtain⟨C4,c_6,e_9,-,D7,R6⟩:=Sli.at_ (B1.mono ((J1.trans J9).trans J10)) l14
        obtain⟨Z11,P11,Z12,P12,rfl,B20,B21⟩:=TD0.opn D7
        refine bz (v:=.pointer (some (C4.add ((0:Int).toNat*6)))) f kr kr rfl rfl (λ_ pq=>Y30 e_9 rfl (len:=d0.ac.length) (cap:=P1) (k:=.i64) (i:=(0:Int)) (e:=26) (sz:=6) (ax l14) (aw l14)) λ_ f=>bz (v:=.agg #[iB X20.ab,bO X20.ah,iL X20.af,S X20.aa,sL Z11 X20.ac P11,sL Z12 X20.ae P12]) f kr kr rfl rfl (λ_ pq=>Y32 (cs:=[iB X20.ab,bO X20.ah,iL X20.af,S X20.aa,sL Z11 X20.ac P11,sL Z12 X20.ae P12]) rfl (ad:=C4.add ((0:Int).toNat*6)) (λj v h=>pq.cell (R6 j v h))) λ_ f=>Y0 default f 2 λ_ f=>?_
        obtain⟨X21,l15,F37⟩:=bS F36
        refine dM (v:=S X21) f kr kr rfl rfl (λ_=>by kernel_rfl) (aJ n _ (GL.mono ((J1.trans J9).trans J10) hG) d1 X5 X21 l15) λ_ f=>bL (E:=[oC Q2 #[iB 0,S [],iL 0,S [],S [],.slice none 0 0] 31]) λW39 N40=>?_
        obtain⟨X22,l16,F38⟩:=bS F37
        rcases X22 with X23|X24
        ·refine aR f N40 (iK n _ (GL.mono ((J1.trans J9).trans J10) hG) _ X20 (TD0.shutx (x:=X20) B20 B21) X21 (.inl X23) l16) kr (λ_=>by kernel_rfl) λV15 W40 J15 N41=>M_p f λ_ f=>cr (ba f ?_)
         obtain rfl:=sI F38
         exact⟨V15,(((J1.trans J9).trans J10).trans J15),(N41.dropN 1),rfl⟩
        ·refine Y17 f N40 (OkX.ok (iK n _ (GL.mono ((J1.trans J9).trans J10) hG) _ X20 (TD0.shutx (x:=X20) B20 B21) X21 (.inr X24) l16)) λ_ V16 W41 J16 N42 q_5 _ f=>?_
         obtain⟨c_7,rfl,D8⟩:=q_5
         obtain⟨Z13,P13,rfl,B22⟩:=TH0.opn D8
         refine ap rfl (dl (M1:=V16) (E:=[oC Q2 #[iB 0,S [],iL 0,S [],S [],.slice none 0 0] 31]) J16 N42 (bL (E:=[oC Q2 #[iB 0,S [],iL 0,S [],S [],.slice none 0 0] 31]) λW42 N43=>Y27 (vs:=[iB X24.ab,S X24.aa,iL X24.af,S X24.ak,S X24.al,sL Z13 X24.fL P13]) (j:=0) f N43 rfl rfl (by simp[Value.oneCell',S]) (by simp) (by decide) (cs':=#[iB X24.ab,S X24.aa,iL X24.af,S X24.ak,S X24.al,sL Z13 X24.fL P13]) λW43 N44 _ f=>ap rfl (dl (M1:=V16) (E:=[oC Q2 #[iB X24.ab,S X24.aa,iL X24.af,S X24.ak,S X24.al,sL Z13 X24.fL P13] 31]) J16 N44 (dL rfl λW44 N45=>aK (wp_ret (cD f rfl (Y11 (cs:=[iB X24.ab,S X24.aa,iL X24.af,S X24.ak,S X24.al,sL Z13 X24.fL P13]) (ad:=⟨Q2,0,none⟩) f (am (N45.ownCell 0 rfl) 0 rfl)) ?_))))))
         obtain rfl:=sI F38
         exact⟨_,rfl,V16,(((J1.trans J9).trans J10).trans J16),(N45.dropN 1),⟨[iB X24.ab,S X24.aa,iL X24.af,S X24.ak,S X24.al,sL Z13 X24.fL P13],rfl,(TH0.shutx (x:=X24) B22)⟩⟩
       ·have e_10:=of_decide_eq_false B19
        rcases cE F39 with⟨B23,F40⟩|⟨B23,F45⟩
        ·have e_11:=of_decide_eq_true B23
         have f:=Frm.set f 55 (v:=.tuple #[fnV ((dz callL X5).getD none),bO (dz callL X5).isSome]) (v':=.tuple #[.func (.func 82) #[] #[],bO true]) kr (by rw[e_11];rfl)
         refine Y f 5 λ_ f=>eT (RR (Y f 3 λ_ f=>?_))
         obtain⟨X25,l17,F41⟩:=bS F40
         refine Y19 f N18 (aJ n _ (GL.mono ((J1.trans J9).trans J10) hG) d1 X5 X25 l17) λW45 N46 _ f=>Y19 f N46 (bk _ (121:Int) X25) λW46 N47 _ f=>eT (an (dp (E:=[oC Q2 #[iB 0,S [],iL 0,S [],S [],.slice none 0 0] 31]) (Hr:=(H)) [(0,true),(1,true),(2,true),(3,true),(4,true),(5,true),(6,true),(7,true),(8,false),(9,false)] N47 kr kr rfl kr (Y0 default f 2 λ_ f=>bz (v:=sL Z1 d0.ac P1) f kr kr rfl rfl (λ_ pq=>Y31 (v:=sL Z1 d0.ac P1) rfl (ad:=(⟨Q1,0,none⟩:Addr).add 4) (pq.cell ((fzu (J9.trans J10) R2) 4 _ rfl))) λ_ f=>?_)))
         obtain⟨X26,l18,F42⟩:=bS F41
         obtain⟨C5,c_8,e_12,-,D9,R7⟩:=Sli.at_ (B1.mono ((J1.trans J9).trans J10)) l18
         obtain⟨Z14,P14,Z15,P15,rfl,B24,B25⟩:=TD0.opn D9
         refine bz (v:=.pointer (some (C5.add ((0:Int).toNat*6)))) f kr kr rfl rfl (λ_ pq=>Y30 e_12 rfl (len:=d0.ac.length) (cap:=P1) (k:=.i64) (i:=(0:Int)) (e:=26) (sz:=6) (ax l18) (aw l18)) λ_ f=>bz (v:=.agg #[iB X26.ab,bO X26.ah,iL X26.af,S X26.aa,sL Z14 X26.ac P14,sL Z15 X26.ae P15]) f kr kr rfl rfl (λ_ pq=>Y32 (cs:=[iB X26.ab,bO X26.ah,iL X26.af,S X26.aa,sL Z14 X26.ac P14,sL Z15 X26.ae P15]) rfl (ad:=C5.add ((0:Int).toNat*6)) (λj v h=>pq.cell (R7 j v h))) λ_ f=>Y0 default f 2 λ_ f=>?_
         obtain⟨X27,l19,F43⟩:=bS F42
         refine dM (v:=S X27) f kr kr rfl rfl (λ_=>by kernel_rfl) (aJ n _ (GL.mono ((J1.trans J9).trans J10) hG) d1 X5 X27 l19) λ_ f=>bL (E:=[oC Q2 #[iB 0,S [],iL 0,S [],S [],.slice none 0 0] 31]) λW48 N49=>?_
         obtain⟨X28,l20,F44⟩:=bS F43
         rcases X28 with X29|X30
         ·refine aR f N49 (iM n rec_syntax_expr hrec_syntax_expr _ (GL.mono ((J1.trans J9).trans J10) hG) _ X26 (TD0.shutx (x:=X26) B24 B25) X27 (.inl X29) l20) kr (λ_=>by kernel_rfl) λV17 W49 J17 N50=>M_p f λ_ f=>cr (ba f ?_)
          obtain rfl:=sI F44
          exact⟨V17,(((J1.trans J9).trans J10).trans J17),(N50.dropN 1),rfl⟩
         ·refine Y17 f N49 (OkX.ok (iM n rec_syntax_expr hrec_syntax_expr _ (GL.mono ((J1.trans J9).trans J10) hG) _ X26 (TD0.shutx (x:=X26) B24 B25) X27 (.inr X30) l20)) λ_ V18 W50 J18 N51 q_6 _ f=>?_
          obtain⟨c_9,rfl,D10⟩:=q_6
          obtain⟨Z16,P16,rfl,B26⟩:=TH0.opn D10
          refine ap rfl (dl (M1:=V18) (E:=[oC Q2 #[iB 0,S [],iL 0,S [],S [],.slice none 0 0] 31]) J18 N51 (bL (E:=[oC Q2 #[iB 0,S [],iL 0,S [],S [],.slice none 0 0] 31]) λW51 N52=>Y27 (vs:=[iB X30.ab,S X30.aa,iL X30.af,S X30.ak,S X30.al,sL Z16 X30.fL P16]) (j:=0) f N52 rfl rfl (by simp[Value.oneCell',S]) (by simp) (by decide) (cs':=#[iB X30.ab,S X30.aa,iL X30.af,S X30.ak,S X30.al,sL Z16 X30.fL P16]) λW52 N53 _ f=>ap rfl (dl (M1:=V18) (E:=[oC Q2 #[iB X30.ab,S X30.aa,iL X30.af,S X30.ak,S X30.al,sL Z16 X30.fL P16] 31]) J18 N53 (dL rfl λW53 N54=>aK (wp_ret (cD f rfl (Y11 (cs:=[iB X30.ab,S X30.aa,iL X30.af,S X30.ak,S X30.al,sL Z16 X30.fL P16]) (ad:=⟨Q2,0,none⟩) f (am (N54.ownCell 0 rfl) 0 rfl)) ?_))))))
          obtain rfl:=sI F44
          exact⟨_,rfl,V18,(((J1.trans J9).trans J10).trans J18),(N54.dropN 1),⟨[iB X30.ab,S X30.aa,iL X30.af,S X30.ak,S X30.al,sL Z16 X30.fL P16],rfl,(TH0.shutx (x:=X30) B26)⟩⟩
        ·have e_13:=of_decide_eq_false B23
         rcases cE F45 with⟨B27,F46⟩|⟨B27,F51⟩
         ·have e_14:=of_decide_eq_true B27
          have f:=Frm.set f 55 (v:=.tuple #[fnV ((dz callL X5).getD none),bO (dz callL X5).isSome]) (v':=.tuple #[.func (.func 83) #[] #[],bO true]) kr (by rw[e_14];rfl)
          refine Y f 5 λ_ f=>eT (RR (Y f 3 λ_ f=>?_))
          obtain⟨X31,l21,F47⟩:=bS F46
          refine Y19 f N18 (aJ n _ (GL.mono ((J1.trans J9).trans J10) hG) d1 X5 X31 l21) λW54 N55 _ f=>Y19 f N55 (bk _ (121:Int) X31) λW55 N56 _ f=>eT (an (dp (E:=[oC Q2 #[iB 0,S [],iL 0,S [],S [],.slice none 0 0] 31]) (Hr:=(H)) [(0,true),(1,true),(2,true),(3,true),(4,true),(5,true),(6,true),(7,true),(8,false),(9,false)] N56 kr kr rfl kr (Y0 default f 2 λ_ f=>bz (v:=sL Z1 d0.ac P1) f kr kr rfl rfl (λ_ pq=>Y31 (v:=sL Z1 d0.ac P1) rfl (ad:=(⟨Q1,0,none⟩:Addr).add 4) (pq.cell ((fzu (J9.trans J10) R2) 4 _ rfl))) λ_ f=>?_)))
          obtain⟨X32,l22,F48⟩:=bS F47
          obtain⟨C6,c_10,e_15,-,D11,R8⟩:=Sli.at_ (B1.mono ((J1.trans J9).trans J10)) l22
          obtain⟨Z17,P17,Z18,P18,rfl,B28,B29⟩:=TD0.opn D11
          refine bz (v:=.pointer (some (C6.add ((0:Int).toNat*6)))) f kr kr rfl rfl (λ_ pq=>Y30 e_15 rfl (len:=d0.ac.length) (cap:=P1) (k:=.i64) (i:=(0:Int)) (e:=26) (sz:=6) (ax l22) (aw l22)) λ_ f=>bz (v:=.agg #[iB X32.ab,bO X32.ah,iL X32.af,S X32.aa,sL Z17 X32.ac P17,sL Z18 X32.ae P18]) f kr kr rfl rfl (λ_ pq=>Y32 (cs:=[iB X32.ab,bO X32.ah,iL X32.af,S X32.aa,sL Z17 X32.ac P17,sL Z18 X32.ae P18]) rfl (ad:=C6.add ((0:Int).toNat*6)) (λj v h=>pq.cell (R8 j v h))) λ_ f=>Y0 default f 2 λ_ f=>?_
          obtain⟨X33,l23,F49⟩:=bS F48
          refine dM (v:=S X33) f kr kr rfl rfl (λ_=>by kernel_rfl) (aJ n _ (GL.mono ((J1.trans J9).trans J10) hG) d1 X5 X33 l23) λ_ f=>bL (E:=[oC Q2 #[iB 0,S [],iL 0,S [],S [],.slice none 0 0] 31]) λW57 N58=>?_
          obtain⟨X34,l24,F50⟩:=bS F49
          rcases X34 with X35|X36
          ·refine aR f N58 (iN n rec_syntax_expr hrec_syntax_expr _ (GL.mono ((J1.trans J9).trans J10) hG) _ X32 (TD0.shutx (x:=X32) B28 B29) X33 (.inl X35) l24) kr (λ_=>by kernel_rfl) λV19 W58 J19 N59=>M_p f λ_ f=>cr (ba f ?_)
           obtain rfl:=sI F50
           exact⟨V19,(((J1.trans J9).trans J10).trans J19),(N59.dropN 1),rfl⟩
          ·refine Y17 f N58 (OkX.ok (iN n rec_syntax_expr hrec_syntax_expr _ (GL.mono ((J1.trans J9).trans J10) hG) _ X32 (TD0.shutx (x:=X32) B28 B29) X33 (.inr X36) l24)) λ_ V20 W59 J20 N60 q_7 _ f=>?_
           obtain⟨c_11,rfl,D12⟩:=q_7
           obtain⟨Z19,P19,rfl,B30⟩:=TH0.opn D12
           refine ap rfl (dl (M1:=V20) (E:=[oC Q2 #[iB 0,S [],iL 0,S [],S [],.slice none 0 0] 31]) J20 N60 (bL (E:=[oC Q2 #[iB 0,S [],iL 0,S [],S [],.slice none 0 0] 31]) λW60 N61=>Y27 (vs:=[iB X36.ab,S X36.aa,iL X36.af,S X36.ak,S X36.al,sL Z19 X36.fL P19]) (j:=0) f N61 rfl rfl (by simp[Value.oneCell',S]) (by simp) (by decide) (cs':=#[iB X36.ab,S X36.aa,iL X36.af,S X36.ak,S X36.al,sL Z19 X36.fL P19]) λW61 N62 _ f=>ap rfl (dl (M1:=V20) (E:=[oC Q2 #[iB X36.ab,S X36.aa,iL X36.af,S X36.ak,S X36.al,sL Z19 X36.fL P19] 31]) J20 N62 (dL rfl λW62 N63=>aK (wp_ret (cD f rfl (Y11 (cs:=[iB X36.ab,S X36.aa,iL X36.af,S X36.ak,S X36.al,sL Z19 X36.fL P19]) (ad:=⟨Q2,0,none⟩) f (am (N63.ownCell 0 rfl) 0 rfl)) ?_))))))
           obtain rfl:=sI F50
           exact⟨_,rfl,V20,(((J1.trans J9).trans J10).trans J20),(N63.dropN 1),⟨[iB X36.ab,S X36.aa,iL X36.af,S X36.ak,S X36.al,sL Z19 X36.fL P19],rfl,(TH0.shutx (x:=X36) B30)⟩⟩
         ·have e_16:=of_decide_eq_false B27
          rcases cE F51 with⟨B31,F52⟩|⟨B31,F57⟩
          ·have e_17:=of_decide_eq_true B31
           have f:=Frm.set f 55 (v:=.tuple #[fnV ((dz callL X5).getD none),bO (dz callL X5).isSome]) (v':=.tuple #[.func (.func 84) #[] #[],bO true]) kr (by rw[e_17];rfl)
           refine Y f 5 λ_ f=>eT (RR (Y f 3 λ_ f=>?_))
           obtain⟨X37,l25,F53⟩:=bS F52
           refine Y19 f N18 (aJ n _ (GL.mono ((J1.trans J9).trans J10) hG) d1 X5 X37 l25) λW63 N64 _ f=>Y19 f N64 (bk _ (121:Int) X37) λW64 N65 _ f=>eT (an (dp (E:=[oC Q2 #[iB 0,S [],iL 0,S [],S [],.slice none 0 0] 31]) (Hr:=(H)) [(0,true),(1,true),(2,true),(3,true),(4,true),(5,true),(6,true),(7,true),(8,false),(9,false)] N65 kr kr rfl kr (Y0 default f 2 λ_ f=>bz (v:=sL Z1 d0.ac P1) f kr kr rfl rfl (λ_ pq=>Y31 (v:=sL Z1 d0.ac P1) rfl (ad:=(⟨Q1,0,none⟩:Addr).add 4) (pq.cell ((fzu (J9.trans J10) R2) 4 _ rfl))) λ_ f=>?_)))
           obtain⟨X38,l26,F54⟩:=bS F53
           obtain⟨C7,c_12,e_18,-,D13,R9⟩:=Sli.at_ (B1.mono ((J1.trans J9).trans J10)) l26
           obtain⟨Z20,P20,Z21,P21,rfl,B32,B33⟩:=TD0.opn D13
           refine bz (v:=.pointer (some (C7.add ((0:Int).toNat*6)))) f kr kr rfl rfl (λ_ pq=>Y30 e_18 rfl (len:=d0.ac.length) (cap:=P1) (k:=.i64) (i:=(0:Int)) (e:=26) (sz:=6) (ax l26) (aw l26)) λ_ f=>bz (v:=.agg #[iB X38.ab,bO X38.ah,iL X38.af,S X38.aa,sL Z20 X38.ac P20,sL Z21 X38.ae P21]) f kr kr rfl rfl (λ_ pq=>Y32 (cs:=[iB X38.ab,bO X38.ah,iL X38.af,S X38.aa,sL Z20 X38.ac P20,sL Z21 X38.ae P21]) rfl (ad:=C7.add ((0:Int).toNat*6)) (λj v h=>pq.cell (R9 j v h))) λ_ f=>Y0 default f 2 λ_ f=>?_
           obtain⟨X39,l27,F55⟩:=bS F54
           refine dM (v:=S X39) f kr kr rfl rfl (λ_=>by kernel_rfl) (aJ n _ (GL.mono ((J1.trans J9).trans J10) hG) d1 X5 X39 l27) λ_ f=>bL (E:=[oC Q2 #[iB 0,S [],iL 0,S [],S [],.slice none 0 0] 31]) λW66 N67=>?_
           obtain⟨X40,l28,F56⟩:=bS F55
           rcases X40 with X41|X42
           ·refine aR f N67 (iO n rec_syntax_expr hrec_syntax_expr _ (GL.mono ((J1.trans J9).trans J10) hG) _ X38 (TD0.shutx (x:=X38) B32 B33) X39 (.inl X41) l28) kr (λ_=>by kernel_rfl) λV21 W67 J21 N68=>M_p f λ_ f=>cr (ba f ?_)
            obtain rfl:=sI F56
            exact⟨V21,(((J1.trans J9).trans J10).trans J21),(N68.dropN 1),rfl⟩
           ·refine Y17 f N67 (OkX.ok (iO n rec_syntax_expr hrec_syntax_expr _ (GL.mono ((J1.trans J9).trans J10) hG) _ X38 (TD0.shutx (x:=X38) B32 B33) X39 (.inr X42) l28)) λ_ V22 W68 J22 N69 q_8 _ f=>?_
            obtain⟨c_13,rfl,D14⟩:=q_8
            obtain⟨Z22,P22,rfl,B34⟩:=TH0.opn D14
            refine ap rfl (dl (M1:=V22) (E:=[oC Q2 #[iB 0,S [],iL 0,S [],S [],.slice none 0 0] 31]) J22 N69 (bL (E:=[oC Q2 #[iB 0,S [],iL 0,S [],S [],.slice none 0 0] 31]) λW69 N70=>Y27 (vs:=[iB X42.ab,S X42.aa,iL X42.af,S X42.ak,S X42.al,sL Z22 X42.fL P22]) (j:=0) f N70 rfl rfl (by simp[Value.oneCell',S]) (by simp) (by decide) (cs':=#[iB X42.ab,S X42.aa,iL X42.af,S X42.ak,S X42.al,sL Z22 X42.fL P22]) λW70 N71 _ f=>ap rfl (dl (M1:=V22) (E:=[oC Q2 #[iB X42.ab,S X42.aa,iL X42.af,S X42.ak,S X42.al,sL Z22 X42.fL P22] 31]) J22 N71 (dL rfl λW71 N72=>aK (wp_ret (cD f rfl (Y11 (cs:=[iB X42.ab,S X42.aa,iL X42.af,S X42.ak,S X42.al,sL Z22 X42.fL P22]) (ad:=⟨Q2,0,none⟩) f (am (N72.ownCell 0 rfl) 0 rfl)) ?_))))))
            obtain rfl:=sI F56
            exact⟨_,rfl,V22,(((J1.trans J9).trans J10).trans J22),(N72.dropN 1),⟨[iB X42.ab,S X42.aa,iL X42.af,S X42.ak,S X42.al,sL Z22 X42.fL P22],rfl,(TH0.shutx (x:=X42) B34)⟩⟩
          ·have e_19:=of_decide_eq_false B31
           have e_20:=callL_none e_4 e_7 e_10 e_13 e_16 e_19
           have f:=Frm.set f 55 (v:=.tuple #[fnV ((dz callL X5).getD none),bO (dz callL X5).isSome]) (v':=.tuple #[.nilFunc,bO false]) kr (by rw[e_20];rfl)
           refine Y f 5 λ_ f=>eT (RR (Y f 3 λ_ f=>?_))
           obtain⟨X43,l29,F58⟩:=bS F57
           refine Y19 f N18 (aJ n _ (GL.mono ((J1.trans J9).trans J10) hG) d1 X5 X43 l29) λW72 N73 _ f=>aR f N73 (bw _ (121:Int) X43) kr (λ_=>by kernel_rfl) λV23 W73 J23 N74=>cr (ba f ?_)
           obtain rfl:=sI F58
           exact⟨V23,(((J1.trans J9).trans J10).trans J23),(N74.dropN 1),rfl⟩
def ca (n:Nat):Nat→TD0→Bs→Option (Sum (Int×Bs) TH0)
 |0=>λ_ _=>none
 |k+1=>eP n (ca n k)
def iQ (n:Nat) (d0:TD0) (d1:Bs):Option (Sum (Int×Bs) TH0):=ca n n d0 d1
theorem gv (n:Nat) (M:Mem) (hG:GL M) (c0:Lv) (d0:TD0) (h0:Rep M (ar d0) c0) (d1:Bs) (r:Sum (Int×Bs) TH0) (hF:iQ n d0 d1=some r):OkX Tryz.prog M 18 [.agg c0.toArray,S d1] 78 r (λr=>λM' v=>∃ (c0:Lv),v=.agg c0.toArray∧Rep M' (ao r) c0):=by
 have key: ∀ (k:Nat) (M:Mem) (hG:GL M) (c0:Lv) (d0:TD0) (h0:Rep M (ar d0) c0) (d1:Bs) (r:Sum (Int×Bs) TH0) (hF:ca n k d0 d1=some r),OkX Tryz.prog M 18 [.agg c0.toArray,S d1] 78 r (λr=>λM' v=>∃ (c0:Lv),v=.agg c0.toArray∧Rep M' (ao r) c0):=by
  intro k
  induction k with
  |zero=>intro M hG c0 d0 h0 d1 r hF;simp[ca] at hF
  |succ k ih=>intro M hG c0 d0 h0 d1 r hF;exact lW n (ca n k) ih M hG c0 d0 h0 d1 r hF
 exact key n M hG c0 d0 h0 d1 r hF
end Go.Proofs.YtkopljikappieaaGreatDoor
end
section
namespace Go.Vc
open Go Go.RowKit
variable {dd:List Deferred}
section
variable {P:Program} {fn:Func} {R:Ending→World→Prop} {n:Nat} {L:Fr} {a:Act} {w:World}
theorem CallsD.mono' {f:FuncId} {args:Array Value} {u:FrameMode} {R R':Ending→FrameMode→World→Prop} (h:CallsD P f args u w R) (hq: ∀e u w,R e u w→R' e u w):CallsD P f args u w R':=
 λc cs hu=>let ⟨e,u',w',fr,h1,h2⟩:=h c cs hu; ⟨e,u',w',fr,hq _ _ _ h1,h2⟩
theorem R_enterD {f:FuncId} {c:Code} {args:Lv} (n:Nat) (hf:P.funcs[f]? =some fn) (hb:fn.body=some c) (hn:fn.ntmps=n) (hle:args.length≤n)
 (h: ∀a,Frm n (frame0 args 0) a→c.wp P (bodyPostD P fn R) a w):Calls P f args.toArray w R:=by
 refine calls_of_wp_defers hf hb (h _ ⟨by simp[hn];omega,rfl,λt v hv=>?_⟩)
 obtain⟨_,h2⟩:=gP args 0 t v hv
 simp only[Nat.sub_zero] at h2
 have hlt:t<args.length:=(List.getElem?_eq_some_iff.1 h2).1
 rw[List.getElem?_eq_getElem hlt] at h2
 simp only[Option.some.injEq] at h2
 simp[Array.getElem?_append,hlt,h2]
theorem E_D0 (hf:Frm n L a) (h:Res P fn a R w):bodyPostD P fn R .ret a w:=by
 show Leaves P fn a.tmps R a.defers .returning w
 rw[hf.defers]
 exact h
theorem E_D1 {d:Deferred} {fv:Fn} {cap:Array Value} {f:FuncId} {args:Array Value} {S:World→Prop} (hf:Frm n L a [d]) (ht:d.target=.fn fv cap) (hi: ∀w,(invoke d.target d.args).run P w=.ok (.enter f args) w)
 (hc:CallsD P f args .returning w λe u' w'=>∃v,e=.returned v∧settle u'=.returning∧S w') (h: ∀w',S w'→Res P fn a R w'):bodyPostD P fn R .ret a w:=by
 show Leaves P fn a.tmps R a.defers .returning w
 rw[hf.defers]
 refine⟨by simp,fv,cap,f,args,ht,hi w,CallsD.mono' hc λe u' w' ⟨v,he,hu,hs⟩=>?_⟩
 subst he
 show Leaves P fn a.tmps R [] (settle u') w'
 rw[hu]
 exact h w' hs
theorem E_D1p {d:Deferred} {fv:Fn} {cap:Array Value} {f:FuncId} {args:Array Value} {S:World→Prop} {ch:List PanicEntry} (hf:Frm n L a [d]) (ht:d.target=.fn fv cap) (hi: ∀w,(invoke d.target d.args).run P w=.ok (.enter f args) w)
 (hc:CallsD P f args (.panicking ch) w λe u' w'=>∃v,e=.returned v∧settle u'=.returning∧S w') (h: ∀w',S w'→Res P fn a R w'):bodyPostD P fn R (.panic ch) a w:=by
 show Leaves P fn a.tmps R a.defers (.panicking ch) w
 rw[hf.defers]
 refine⟨by simp,fv,cap,f,args,ht,hi w,CallsD.mono' hc λe u' w' ⟨v,he,hu,hs⟩=>?_⟩
 subst he
 show Leaves P fn a.tmps R [] (settle u') w'
 rw[hu]
 exact h w' hs
end
section
variable {P:Program} {ops:Array Oper} {n:Nat} {Q:Exit→Act→World→Prop} {L:Fr} {a:Act} {w:World}
theorem W_defer {o:Oper} {rest:List Oper} (d:Deferred) (hf:Frm n L a dd) (hw:aN ops L o=some true) (hr:bb L o=true) (hd:o.dst=none) (hx: (execOp (ev L) o).run P w=.ok (.defer d) w)
 (hk: ∀a',Frm n L a' (d::dd)→wpList P ops Q rest a' w):wpList P ops Q (o::rest) a w:=by
 simp only[wpList]
 rw[hf.wanted hw]
 refine .inl ?_
 unfold Oper.wp
 rw[hf.exec hr,hx]
 refine hk _ ?_
 rw[hd]
 exact⟨hf.size,by show d::a.defers=_;rw[hf.defers],hf.at_⟩
end
section
variable {P:Program} {ops:Array Oper} {Q:Exit→Act→List Frame→World→Prop} {a:Act} {cs cs':List Frame} {w:World}
theorem recS_some {o:Oper} {i:Nat} {rest:List Nat} {v:Value} (ho:ops[i]? =some o) (hw:Region.wanted o (yielded ops a.tmps)=true) (hx: (execOp a.eval o).run P w=.ok .recover w) (hr:recoverD cs=some (v,cs')) (h:wpOpsS P ops Q rest (a.put o.dst v) cs' w):wpOpsS P ops Q (i::rest) a cs w:=by
 simp only[wpOpsS,ho,hw,if_true,hx,hr]
 exact h
theorem recS_none {o:Oper} {i:Nat} {rest:List Nat} (ho:ops[i]? =some o) (hw:Region.wanted o (yielded ops a.tmps)=true) (hx: (execOp a.eval o).run P w=.ok .recover w) (hr:recoverD cs=none) (h:wpOpsS P ops Q rest (a.put o.dst .nilIface) cs w):wpOpsS P ops Q (i::rest) a cs w:=by
 simp only[wpOpsS,ho,hw,if_true,hx,hr]
 exact h
theorem lh (hQ: ¬LetsOut λe a w=>Q e a cs w): ∀ (l:List Oper) (k:Nat),(∀j,j<l.length→l[j]? =ops[k+j]?)→∀a w,wpList P ops (λe a' w'=>Q e a' cs w') l a w→wpOpsS P ops Q (List.range' k l.length) a cs w
 |[],k,_,a,w,h=>h
 |o::l,k,hl,a,w,h=>by
  have h0:ops[k]? =some o:=by simpa using (hl 0 (by simp)).symm
  have ih:=lh hQ l (k+1) (λj hj=>by have:=hl (j+1) (by simp;omega);simpa [Nat.add_assoc,Nat.add_comm 1 j] using this)
  simp only[List.length_cons,List.range'_succ,wpOpsS,h0]
  simp only[wpList] at h
  split
  ·rename_i hw
   rw[if_pos hw] at h
   rcases h with h|⟨-,h⟩
   ·unfold Oper.wp at h
    generalize (execOp a.eval o).run P w=r at h ⊢
    cases r with
    |ok x w'=>
     cases x<;>simp only[Oper.upon] at h ⊢
     case value v=>exact ih _ _ h
     case skip=>exact ih _ _ h
     case defer d=>exact ih _ _ h
     case enter f args=>
      refine Calls.mono h λe w'' he=>?_
      cases e with
      |returned v=>exact ih _ _ he
      |panicked c=>exact he
      |outgrown=>exact he
     case row row args=>exact Go.Rows.mono h λv w'' he=>ih _ _ he
    |halt x w'=>
     cases x<;>simp only[Oper.upon] at h ⊢
     case panic v=>exact h
   ·exact absurd h hQ
  ·rename_i hw
   rw[if_neg hw] at h
   exact ih _ _ h
end
end Go.Vc
namespace Go.Vc
open Go Go.RowKit
theorem regS_rec {P:Program} {ops:Array Oper} {Q:Exit→Act→List Frame→World→Prop} {a:Act} {cs cs':List Frame} {w:World} {id:Nat} {o:Oper} {l:List Oper} {v:Value} (hQ: ¬LetsOut λe a w=>Q e a cs' w) (h0:ops.toList=o::l)
 (hw:Region.wanted o (yielded ops a.tmps)=true) (hx: (execOp a.eval o).run P w=.ok .recover w) (hr: (recoverD cs=some (v,cs'))∨(recoverD cs=none∧v=.nilIface∧cs'=cs)) (h:wpList P ops (λe a' w'=>Q e a' cs' w') l (a.put o.dst v) w):
 (Code.region id ops false).wpS P Q a cs w:=by
 refine wpS_region ?_
 have hlen:ops.size=l.length+1:=by rw[←Array.length_toList,h0];rfl
 have ho:ops[0]? =some o:=by rw[←Array.getElem?_toList,h0];rfl
 rw[hlen,List.range_eq_range',List.range'_succ]
 have ht:=lh hQ l (0+1) (λj hj=>by rw[←Array.getElem?_toList,h0,Nat.add_comm (0+1) j];rfl) (a.put o.dst v) w h
 rcases hr with hr|⟨hr,rfl,rfl⟩
 ·exact recS_some ho hw hx hr ht
 ·exact recS_none ho hw hx hr ht
theorem thenS_n {next:Act→List Frame→World→Prop} {Q:Exit→Act→List Frame→World→Prop} {a:Act} {cs:List Frame} {w:World} (h:next a cs w):Exit.thenS next Q .normal a cs w:=h
theorem km {n:Nat} {args:Lv} (hle:args.length≤n):Frm n (frame0 args 0) {tmps:=args.toArray++Array.replicate (n-args.toArray.size) undef,defers:=[]}:=by
 refine⟨by simp;omega,rfl,λt v hv=>?_⟩
 obtain⟨_,h2⟩:=gP args 0 t v hv
 simp only[Nat.sub_zero] at h2
 have hlt:t<args.length:=(List.getElem?_eq_some_iff.1 h2).1
 rw[List.getElem?_eq_getElem hlt] at h2
 simp only[Option.some.injEq] at h2
 simp[Array.getElem?_append,hlt,h2]
end Go.Vc
namespace Go.Vc
open Go Go.RowKit
section
variable {P:Program} {fn:Func} {R:Ending→World→Prop} {n:Nat} {L:Fr} {a:Act} {w:World}
theorem leaves2 {tmps:Array Value} {d1 d2:Deferred} {fv1 fv2:Fn} {cap1 cap2:Array Value} {f1 f2:FuncId} {args1 args2:Array Value} {S1 S2:World→Prop} {u:FrameMode} (hu:u≠ .run) (ht1:d1.target=.fn fv1 cap1) (hi1: ∀w,(invoke d1.target d1.args).run P w=.ok (.enter f1 args1) w) (ht2:d2.target=.fn fv2 cap2) (hi2: ∀w,(invoke d2.target d2.args).run P w=.ok (.enter f2 args2) w)
 (hc1:CallsD P f1 args1 u w λe u' w'=>∃v,e=.returned v∧settle u'=.returning∧S1 w') (hc2: ∀w,S1 w→CallsD P f2 args2 .returning w λe u' w'=>∃v,e=.returned v∧settle u'=.returning∧S2 w')
 (h: ∀w',S2 w'→Leaves P fn tmps R [] .returning w'):Leaves P fn tmps R [d1,d2] u w:=by
 refine⟨hu,fv1,cap1,f1,args1,ht1,hi1 w,CallsD.mono' hc1 λe u' w' ⟨v,he,hu,hs⟩=>?_⟩
 subst he
 show Leaves P fn tmps R [d2] (settle u') w'
 rw[hu]
 refine⟨by simp,fv2,cap2,f2,args2,ht2,hi2 w',CallsD.mono' (hc2 w' hs) λe u' w' ⟨v,he,hu,hs⟩=>?_⟩
 subst he
 show Leaves P fn tmps R [] (settle u') w'
 rw[hu]
 exact h w' hs
theorem E_D2 {d1 d2:Deferred} {fv1 fv2:Fn} {cap1 cap2:Array Value} {f1 f2:FuncId} {args1 args2:Array Value} {S1 S2:World→Prop} (hf:Frm n L a [d1,d2]) (ht1:d1.target=.fn fv1 cap1) (hi1: ∀w,(invoke d1.target d1.args).run P w=.ok (.enter f1 args1) w) (ht2:d2.target=.fn fv2 cap2) (hi2: ∀w,(invoke d2.target d2.args).run P w=.ok (.enter f2 args2) w)
 (hc1:CallsD P f1 args1 .returning w λe u' w'=>∃v,e=.returned v∧settle u'=.returning∧S1 w') (hc2: ∀w,S1 w→CallsD P f2 args2 .returning w λe u' w'=>∃v,e=.returned v∧settle u'=.returning∧S2 w')
 (h: ∀w',S2 w'→Res P fn a R w'):bodyPostD P fn R .ret a w:=by
 show Leaves P fn a.tmps R a.defers .returning w
 rw[hf.defers]
 exact leaves2 (by simp) ht1 hi1 ht2 hi2 hc1 hc2 h
theorem E_D2p {d1 d2:Deferred} {fv1 fv2:Fn} {cap1 cap2:Array Value} {f1 f2:FuncId} {args1 args2:Array Value} {S1 S2:World→Prop} {ch:List PanicEntry} (hf:Frm n L a [d1,d2]) (ht1:d1.target=.fn fv1 cap1) (hi1: ∀w,(invoke d1.target d1.args).run P w=.ok (.enter f1 args1) w) (ht2:d2.target=.fn fv2 cap2) (hi2: ∀w,(invoke d2.target d2.args).run P w=.ok (.enter f2 args2) w)
 (hc1:CallsD P f1 args1 (.panicking ch) w λe u' w'=>∃v,e=.returned v∧settle u'=.returning∧S1 w') (hc2: ∀w,S1 w→CallsD P f2 args2 .returning w λe u' w'=>∃v,e=.returned v∧settle u'=.returning∧S2 w')
 (h: ∀w',S2 w'→Res P fn a R w'):bodyPostD P fn R (.panic ch) a w:=by
 show Leaves P fn a.tmps R a.defers (.panicking ch) w
 rw[hf.defers]
 exact leaves2 (by simp) ht1 hi1 ht2 hi2 hc1 hc2 h
end
end Go.Vc
end
section
namespace Go.Proofs.YtkopljikappieaaGreatDoor
open Go Go.Vc Go.RowKit
theorem Hp.dropAt2 {w0:World} {M:Mem} {x y z:Ent} {H:List Ent} {w:World} (h:Hp w0 M (x::y::z::H) w):Hp w0 M (x::y::H) w:=
 (h.perm (List.Perm.trans (List.Perm.cons x (List.Perm.swap z y H)) (List.Perm.swap z x (y::H)))).dropN 1
set_option maxRecDepth 20000 in
theorem taken_q {M:Mem} {w0:World} {H:List Ent} {w:World} (b3 b4:Nat) (hp:Hp w0 M H w):CallsD Tryz.prog 17 [pP b3,pP b4].toArray .returning w (λe u' w'=>∃v,e=.returned v∧settle u'=.returning∧Hp w0 M H w'):=by
 refine callsD_of_wpS Tryz.func17 rfl λc₀ cs hu=>?_
 have hf0:Frm 20 (frame0 [pP b3,pP b4] 0) _:=km (by simp)
 have hrec:recoverD (c₀::cs)=none:=by unfold recoverD;simp only[hu]
 have hcs: ({c₀ with mode:=.returning}:Frame)=c₀:=by rw[←hu]
 refine wpS_seq (regS_rec (v:=.nilIface) (cs':=c₀::cs) ?_ rfl (hf0.wanted kr) rfl (.inr ⟨hrec,rfl,rfl⟩) ?_)
 ·rintro⟨a,w,u,v,he,_⟩;cases he
 have hf1:Frm 20 ((7,.nilIface)::frame0 [pP b3,pP b4] 0) _:=hf0.put (by decide) _
 refine ei (L':=[(0,pP b3),(1,pP b4),(9,.agg #[iL 0,S []]),(10,bO false)]) (w':=w) hf1 4 [0,1,9,10] kr λ_ f=>Y13 f hp (.cells #[iL 0,S []] 78 (0,0)) λb5 W3 N3 _ f=>Ys [iL 0,S []] #[iL 0,S []] f N3 rfl rfl λW4 N4 _ f=>Y f 1 λ_ f=>ap rfl (thenS_n (wpS_of_wp (RR (ei (L':=[(0,pP b3),(1,pP b4),(4,pP b5),(11,bO false)]) (w':=W4) f 1 [0,1,4,11] kr λ_ f=>eT (Y8 f (wp_skip (⟨f.defers,.returning,by rw[hcs],.tuple #[],results_none rfl _ _ _,⟨_,rfl,rfl,N4.dropN 1⟩⟩)))))))
set_option maxRecDepth 20000 in
theorem taken_p {M:Mem} {w0:World} {H:List Ent} {w:World} (b3 b4:Nat) (x:Int×Bs) (s:Bs) (e0:Int) (hp:Hp w0 M (oC b3 #[S s] 9::oC b4 #[iL e0] 32::H) w):CallsD Tryz.prog 17 [pP b3,pP b4].toArray (.panicking (flawE 78 x)) w (λe u' w'=>∃v,e=.returned v∧settle u'=.returning∧Hp w0 M (oC b3 #[S x.2] 9::oC b4 #[iL x.1] 32::H) w'):=by
 refine callsD_of_wpS Tryz.func17 rfl λc₀ cs hu=>?_
 have hf0:Frm 20 (frame0 [pP b3,pP b4] 0) _:=km (by simp)
 have hrec:recoverD (c₀::cs)=some (.iface 78 (.agg #[iL x.1,S x.2]),{c₀ with mode:=.panicking [{v:=.iface 78 (.agg #[iL x.1,S x.2]),recovered:=true}]}::cs):=by unfold recoverD flawE at*;simp only[hu]
 refine wpS_seq (regS_rec (v:=.iface 78 (.agg #[iL x.1,S x.2])) (cs':={c₀ with mode:=.panicking [{v:=.iface 78 (.agg #[iL x.1,S x.2]),recovered:=true}]}::cs) ?_ rfl (hf0.wanted kr) rfl (.inl hrec) ?_)
 ·rintro⟨a,w,u,v,he,_⟩;cases he
 have hf1:Frm 20 ((7,.iface 78 (.agg #[iL x.1,S x.2]))::frame0 [pP b3,pP b4] 0) _:=hf0.put (by decide) _
 refine ei (L':=[(0,pP b3),(1,pP b4),(9,.agg #[iL x.1,S x.2]),(10,bO true)]) (w':=w) hf1 4 [0,1,9,10] kr λa_2 f=>Y13 f hp (.cells #[iL 0,S []] 78 (0,0)) λb5 W3 N3 a_3 f=>Ys [iL x.1,S x.2] #[iL x.1,S x.2] f N3 rfl rfl λW4 N4 a_4 f=>Y f 1 λa_5 f=>ap rfl (thenS_n (wpS_of_wp (RR (ei (L':=[(0,pP b3),(1,pP b4),(4,pP b5),(11,bO true)]) (w':=W4) f 1 [0,1,4,11] kr λ_ f=>eT (Y9 f ?_)))))
 have N8:Hp w0 M (oC b3 #[S s] 9::oC b4 #[iL e0] 32::oC b5 #[iL x.1,S x.2] 78::H) W4:=N4.perm (List.Perm.trans (List.Perm.swap _ _ _) (List.Perm.cons _ (List.Perm.swap _ _ _)))
 refine dp (E:=[oC b3 #[S s] 9,oC b4 #[iL e0] 32]) (Hr:=((oC b5 #[iL x.1,S x.2] 78)::H)) [(0,true),(1,true),(2,true),(3,true),(4,true),(5,true),(6,true),(7,false),(8,true),(9,false)] N8 kr kr rfl kr (Y0 default f 3 λ_ f=>bz (v:=S x.2) f kr kr rfl rfl (λ_ pq=>Y31 (v:=S x.2) rfl (ad:=⟨b5,1,none⟩) (pq.ownCell 0 rfl 1)) λa_2 f=>Y0 default f 1 λa_3 f=>bz (v:=iL x.1) f kr kr rfl rfl (λ_ pq=>Y31 (v:=iL x.1) rfl (ad:=⟨b5,0,none⟩) (pq.ownCell 0 rfl 0)) λa_4 f=>Y0 default f 1 λa_5 f=>bL (E:=[oC b3 #[S s] 9,oC b4 #[iL e0] 32]) λW1 N1=>Y26 f N1 0 rfl rfl (b:=b3) (j:=0) (v:=S x.2) rfl (by exact rfl) (by simp) (by simp) ((oC b3 #[S x.2] 9)::(oC b4 #[iL e0] 32)::(oC b5 #[iL x.1,S x.2] 78)::H) rfl λW2 N2 _ f=>ap rfl (dl (M1:=M) (E:=[oC b3 #[S x.2] 9,oC b4 #[iL e0] 32]) (mR _) N2 (Y0 default f 1 λ_ f=>bL (E:=[oC b3 #[S x.2] 9,oC b4 #[iL e0] 32]) λW3 N3=>Y26 f N3 1 rfl rfl (b:=b4) (j:=0) (v:=iL x.1) rfl (by exact rfl) (by simp) (by simp) ((oC b3 #[S x.2] 9)::(oC b4 #[iL x.1] 32)::(oC b5 #[iL x.1,S x.2] 78)::H) rfl λW4 N4 _ f=>ap rfl (dl (M1:=M) (E:=[oC b3 #[S x.2] 9,oC b4 #[iL x.1] 32]) (mR _) N4 (dL rfl λW5 N5=>⟨f.defers,_,rfl,.tuple #[],results_none rfl _ _ _,⟨_,rfl,rfl,?_⟩⟩)))))
 obtain⟨q_M,q_h⟩: ∃q:Hp w0 M (oC b3 #[S x.2] 9::oC b4 #[iL x.1] 32::oC b5 #[iL x.1,S x.2] 78::H) W5,True:=⟨N5,trivial⟩
 have q2:=Hp.dropAt2 q_M
 exact q2
def gg (n:Nat) (d0:TD0):Option (TH0×Bs×Int):=
 (gL n d0).bind λX1=>
 bif(!(decide (X1=0))) then
  (some ((ai,([]:Bs),X1)))
 else
  (iQ n d0 ([]:Bs)).bind λX2=>
  (match X2 with
  |.inl X3=>some ((ai,X3.2,X3.1))
  |.inr X4=>some ((X4,([]:Bs),(0:Int))))
theorem iz (n:Nat) (M:Mem) (hG:GL M) (c0:Lv) (d0:TD0) (h0:Rep M (ar d0) c0) (r:TH0×Bs×Int) (hF:gg n d0=some r):Ok Tryz.prog M 8 [.agg c0.toArray] (λM' v=>∃ (c0:Lv),v=.tuple #[.agg c0.toArray,S r.2.1,iL r.2.2]∧Rep M' (ao r.1) c0):=by
 unfold gg at hF
 intro M1 hM0 w0 H w p0
 replace hG:=GL.mono hM0 hG
 replace h0:=Rep.mono hM0 _ _ h0
 obtain⟨Z1,P1,Z2,P2,rfl,B1,B2⟩:=TD0.opn h0
 refine R_enterD 14 Tryz.func8 rfl rfl (by simp) λa0 f0=>RR (Y14 (cs:=(aTD0 d0 Z1 P1 Z2 P2)) (T:=26) f0 p0 λQ1 V1 W1 J1 R1 N1 _ f=>?_)
 have R2:=bj R1
 refine Y13 f N1 (.cells #[iB 0,S [],iL 0,S [],S [],Sn] 31 (0,0)) λQ2 W2 N2 _ f=>Y13 f N2 (.cells #[S []] 9 (0,0)) λQ3 W3 N3 _ f=>Y13 f N3 (.cells #[iL 0] 32 (0,0)) λQ4 W4 N4 _ f=>eT (an (RR (Z f (Y32 (cs:=(lTD0 d0 Z1 P1 Z2 P2)) rfl (ad:=⟨Q1,0,none⟩) (λj v h=>N4.cell (R2 j v h))) λ_ f=>?_)))
 obtain⟨X1,l1,F1⟩:=bS hF
 refine Y19 f N4 (kF n _ (GL.mono J1 hG) _ d0 (TD0.shutx (x:=d0) (B1.mono J1) (B2.mono J1)) X1 l1) λW5 N5 _ f=>Ye f 1 λ_ f=>RR (Ye f 2 λ_ f=>RcF f F1 (λB3 F2=>?_) λB3 F3=>?_)
 ·have U1: ¬ (X1=0):=(aM dI).1 B3
  refine RR (Z f (Y32 (cs:=[iB 0,S [],iL 0,S [],S [],Sn]) rfl (ad:=⟨Q2,0,none⟩) (am (N5.ownCell 2 rfl) 0 rfl)) λ_ f=>Y f 1 λ_ f=>?_)
  have N6:=N5.pl [2]
  refine Ys [iB 0,S [],iL 0,S [],S [],Sn] #[iB 0,S [],iL 0,S [],S [],Sn] f N6 rfl rfl λW6 N7 _ f=>Y26 f N7 2 rfl rfl (b:=Q3) (j:=0) (v:=S []) rfl (by exact rfl) (by simp) (by simp) ((oC Q2 #[iB 0,S [],iL 0,S [],S [],Sn] 31)::(oC Q4 #[iL 0] 32)::(oC Q3 #[S []] 9)::H) rfl λW7 N8 _ f=>Y26 f N8 1 rfl rfl (b:=Q4) (j:=0) (v:=iL X1) rfl (by exact rfl) (by simp) (by simp) ((oC Q2 #[iB 0,S [],iL 0,S [],S [],Sn] 31)::(oC Q4 #[iL X1] 32)::(oC Q3 #[S []] 9)::H) rfl λW8 N9 _ f=>Er (bC (E_D0 f (nW rfl (Y11 (cs:=[iB 0,S [],iL 0,S [],S [],Sn]) (ad:=⟨Q2,0,none⟩) f (am (N9.ownCell 0 rfl) 0 rfl)) (Y10 (v:=S []) (ad:=⟨Q3,0,none⟩) f (N9.ownCell 2 rfl 0)) (Y10 (v:=iL X1) (ad:=⟨Q4,0,none⟩) f (N9.ownCell 1 rfl 0)) ?_)))
  cases sI F2
  exact⟨_,rfl,V1,J1,(N9.dropN 3),⟨[iB 0,S [],iL 0,S [],S [],Sn],rfl,(TH0.shut Sli.nil)⟩⟩
 ·have U2: ¬ (¬ (X1=0)):=aq (aM dI) B3
  refine St (RR (W_defer ({target:=.fn (.func 17) #[],args:=#[pP Q3,pP Q4]}) f kr kr rfl kr λ_ f=>eT (RR (Z f (Y32 (cs:=(lTD0 d0 Z1 P1 Z2 P2)) rfl (ad:=⟨Q1,0,none⟩) (λj v h=>N5.cell (R2 j v h))) λ_ f=>?_))))
  obtain⟨X2,l2,F4⟩:=bS F3
  rcases X2 with X3|X4
  ·refine aR f N5 (gv n _ (GL.mono J1 hG) _ d0 (TD0.shutx (x:=d0) (B1.mono J1) (B2.mono J1)) ([]:Bs) (.inl X3) l2) kr (λ_=>by kernel_rfl) λV2 W9 J2 N10=>cr ?_
   have N14:=N10.pl [2,1,2]
   refine E_D1p f rfl (λ_=>by kernel_rfl) (taken_p Q3 Q4 X3 ([]:Bs) (0:Int) N14) λW10 N11=>nW rfl (Y11 (cs:=[iB 0,S [],iL 0,S [],S [],Sn]) (ad:=⟨Q2,0,none⟩) f (am (N11.ownCell 2 rfl) 0 rfl)) (Y10 (v:=S X3.2) (ad:=⟨Q3,0,none⟩) f (N11.ownCell 0 rfl 0)) (Y10 (v:=iL X3.1) (ad:=⟨Q4,0,none⟩) f (N11.ownCell 1 rfl 0)) ?_
   cases sI F4
   exact⟨_,rfl,V2,(J1.trans J2),(N11.dropN 3),⟨[iB 0,S [],iL 0,S [],S [],Sn],rfl,(TH0.shut Sli.nil)⟩⟩
  ·refine Y17 f N5 (OkX.ok (gv n _ (GL.mono J1 hG) _ d0 (TD0.shutx (x:=d0) (B1.mono J1) (B2.mono J1)) ([]:Bs) (.inr X4) l2)) λ_ V3 W11 J3 N15 ej _ f=>?_
   obtain⟨cZ,rfl,D1⟩:=ej
   obtain⟨Z3,P3,rfl,B4⟩:=TH0.opn D1
   have N16:=N15.pl [2]
   refine Ys (lTH0 X4 Z3 P3) (aTH0 X4 Z3 P3) f N16 rfl rfl λW12 N17 _ f=>Y26 f N17 2 rfl rfl (b:=Q3) (j:=0) (v:=S []) rfl (by exact rfl) (by simp) (by simp) ((Ent.obj Q2 (.cells (aTH0 X4 Z3 P3) 31 (0,0)))::(oC Q4 #[iL 0] 32)::(oC Q3 #[S []] 9)::H) rfl λW13 N18 _ f=>Y26 f N18 1 rfl rfl (b:=Q4) (j:=0) (v:=iL 0) rfl (by exact rfl) (by simp) (by simp) ((Ent.obj Q2 (.cells (aTH0 X4 Z3 P3) 31 (0,0)))::(oC Q4 #[iL 0] 32)::(oC Q3 #[S []] 9)::H) rfl λW14 N19 _ f=>Er (E_D1 f rfl (λ_=>by kernel_rfl) (taken_q Q3 Q4 N19) λW15 N20=>nW rfl (Y11 (cs:=(lTH0 X4 Z3 P3)) (ad:=⟨Q2,0,none⟩) f (am (N20.ownCell 0 rfl) 0 rfl)) (Y10 (v:=S []) (ad:=⟨Q3,0,none⟩) f (N20.ownCell 2 rfl 0)) (Y10 (v:=iL 0) (ad:=⟨Q4,0,none⟩) f (N20.ownCell 1 rfl 0)) ?_)
   cases sI F4
   exact⟨_,rfl,V3,(J1.trans J3),(N20.dropN 3),⟨[iB X4.ab,S X4.aa,iL X4.af,S X4.ak,S X4.al,sL Z3 X4.fL P3],rfl,(TH0.shutx (x:=X4) B4)⟩⟩
abbrev FX (α:Type):=Sum (Int×Bs) α
def wordS (s:Bs):Bool:=decide ((s.length:Int)≤64)&&Lib.validD s
def nameV (v:TD0):Bool:=decide (v.ab=3)&&nameS v.aa
def wordV (v:TD0):Bool:=decide (v.ab=3)&&wordS v.aa
theorem ng {n:Nat} {v:TD0} (hn:100000≤n) (h:v.aa.length≤5000):cU n v=some (nameV v):=by
 unfold cU nameV
 cases hk:decide (v.ab=3) with
 |false=>rw[cF,Bool.false_and]
 |true=>rw[cT,jV (by omega) (by omega),bnd,Bool.true_and]
theorem word_own {n:Nat} {v:TD0} (hn:100000≤n) (h:v.aa.length≤5000):gh n v=some (wordV v):=by
 unfold gh wordV jj wordS
 cases hk:decide (v.ab=3) with
 |false=>rw[cF,Bool.false_and]
 |true=>
  rw[cT,Bool.true_and]
  cases hl:decide ((v.aa.length:Int)≤64) with
  |false=>rw[cF,bnd,Bool.false_and]
  |true=>rw[cT,lX (by omega),bnd,bnd,Bool.true_and]
def undS (a k:Bs):Bs:=if a=[] then k else a++[47]++k
theorem ny (a k:Bs): (undS a k).length≤a.length+1+k.length:=by
 unfold undS
 split
 ·omega
 ·simp;omega
theorem und_own {n:Nat} {a k:Bs} (ha:a.length≤1000000) (hk:k.length≤1000000):aL n a k=some (undS a k):=by
 unfold aL undS
 by_cases h:a=[]
 ·rw[dT h,cT,if_pos h]
 ·rw[dF h,cF,if_neg h,aX (by simp;omega),aX (by simp;omega)]
def plcS (a:Bs) (i:Nat):Bs:=undS a (Go.Num.text (i:Int)).1
theorem num_all: ((List.range 9).all λi=>decide ((Go.Num.text (i:Int)).1.length≤20))=true:=by kernel_rfl
theorem num_len {i:Nat} (h:i≤8): (Go.Num.text (i:Int)).1.length≤20:=of_decide_eq_true (List.all_eq_true.1 num_all i (List.mem_range.2 (by omega)))
theorem li {a:Bs} {i:Nat} (h:i≤8): (plcS a i).length≤a.length+21:=by
 have:=ny a (Go.Num.text (i:Int)).1
 have:=num_len h
 unfold plcS
 omega
theorem plc_own {n:Nat} {a:Bs} {i:Nat} (ha:a.length≤1000000) (hi:i≤8):dG n a (i:Int)=some (plcS a i):=by
 unfold dG lH
 rw[bnd,und_own ha (by have:=num_len hi;omega),bnd]
 rfl
def exL (E : TD0 → List UInt8 → FX TH0) (at_ : List UInt8) : Nat → List TD0 → FX (List TH0)
  | _, [] => .inr []
  | i, v :: r => match E v (plcS at_ i) with
    | .inl p => .inl p
    | .inr x => match exL E at_ (i + 1) r with
      | .inl p => .inl p
      | .inr xs => .inr (x :: xs)
def twoV (v:TD0):Option (TD0×TD0):=if v.ab=4 then match v.ac with|[a,b]=>some (a,b)|_=>none else none
def threeV (v:TD0):Option (TD0×TD0×TD0):=if v.ab=4 then match v.ac with|[a,b,c]=>some (a,b,c)|_=>none else none
theorem dY (v:TD0): (∃a b,twoV v=some (a,b)∧v.ab=4∧v.ac=[a,b])∨(twoV v=none∧(v.ab≠4∨v.ac.length≠2)):=by
 unfold twoV
 by_cases h:v.ab=4
 ·rw[if_pos h]
  match hl:v.ac with
  |[]=>exact .inr ⟨rfl,.inr (by simp)⟩
  |[a]=>exact .inr ⟨rfl,.inr (by simp)⟩
  |[a,b]=>exact .inl ⟨a,b,rfl,h,rfl⟩
  |a::b::c::r=>exact .inr ⟨rfl,.inr (by simp)⟩
 ·rw[if_neg h]
  exact .inr ⟨rfl,.inl h⟩
theorem iR (v:TD0): (∃a b c,threeV v=some (a,b,c)∧v.ab=4∧v.ac=[a,b,c])∨(threeV v=none∧(v.ab≠4∨v.ac.length≠3)):=by
 unfold threeV
 by_cases h:v.ab=4
 ·rw[if_pos h]
  match hl:v.ac with
  |[]=>exact .inr ⟨rfl,.inr (by simp)⟩
  |[a]=>exact .inr ⟨rfl,.inr (by simp)⟩
  |[a,b]=>exact .inr ⟨rfl,.inr (by simp)⟩
  |[a,b,c]=>exact .inl ⟨a,b,c,rfl,h,rfl⟩
  |a::b::c::d::r=>exact .inr ⟨rfl,.inr (by simp)⟩
 ·rw[if_neg h]
  exact .inr ⟨rfl,.inl h⟩
def mapX {α β:Type} (f:α→β):FX α→FX β
 |.inl p=>.inl p
 |.inr x=>.inr (f x)
def shp (at_:Bs):FX TH0:=.inl (121,at_)
def c1V (v:TD0) (at_:Bs):FX TH0:=bif nameV v then .inr ⟨3,[],0,v.aa,[],[]⟩ else shp at_
def c2V (v:TD0) (at_:Bs):FX TH0:=match twoV v with
 |some (a,b)=>bif nameV a&& (decide (b.ab=3)&&attrS b.aa) then .inr ⟨4,[],0,a.aa,b.aa,[]⟩ else shp at_
 |none=>shp at_
def c3V (v:TD0) (at_:Bs):FX TH0:=bif decide (v.ab=3) then(bif decide ((lexS v.aa).2.2=0) then .inr ⟨5,[],0,[],[],(lexS v.aa).1⟩ else .inl ((lexS v.aa).2.2,at_)) else shp at_
def c4V (E:TD0→Bs→FX TH0) (v:TD0) (at_:Bs):FX TH0:=match threeV v with
 |some (a,b,c)=>bif nameV a then mapX (λl=>⟨6,[],0,a.aa,[],l⟩) (exL E at_ 1 [b,c]) else shp at_
 |none=>shp at_
def c5V (E:TD0→Bs→FX TH0) (v:TD0) (at_:Bs):FX TH0:=match twoV v with
 |some (a,b)=>bif wordV a then mapX (λl=>⟨7,a.aa,0,[],[],l⟩) (exL E at_ 1 [b]) else shp at_
 |none=>shp at_
def c6V (E:TD0→Bs→FX TH0) (v:TD0) (at_:Bs):FX TH0:=match twoV v with
 |some (a,b)=>mapX (λl=>⟨8,[],0,[],[],l⟩) (exL E at_ 0 [a,b])
 |none=>shp at_
def callV (E:TD0→Bs→FX TH0) (key:Bs) (v:TD0) (at_:Bs):FX TH0:=
 bif decide (key=[82,101,102]) then c1V v at_
 else bif decide (key=[71,101,116,65,116,116]) then c2V v at_
 else bif decide (key=[83,117,98]) then c3V v at_
 else bif decide (key=[73,102]) then c4V E v at_
 else bif decide (key=[74,111,105,110]) then c5V E v at_
 else bif decide (key=[83,101,108,101,99,116]) then c6V E v at_
 else shp at_
def exprB (E:TD0→Bs→FX TH0) (v:TD0) (at_:Bs):FX TH0:=
 bif decide (v.ab=3) then(bif wordV v then .inr ⟨0,v.aa,0,[],[],[]⟩ else shp at_)
 else bif decide (v.ab=2) then .inr ⟨1,[],v.af,[],[],[]⟩
 else bif decide (v.ab=4) then(bif decide (((v.ac.length:Nat):Int)≤8) then mapX (λl=>⟨2,[],0,[],[],l⟩) (exL E at_ 0 v.ac) else .inl (3,at_))
 else match v.ae,v.ac with
  |[key],[x]=>callV E key x (undS at_ key)
  |_,_=>shp at_
def exprV:Nat→TD0→Bs→FX TH0
 |0,_,at_=>shp at_
 |d+1,v,at_=>exprB (exprV d) v at_
theorem mV {n : Nat} {rc : TD0 → List UInt8 → Option (FX TH0)} {E : TD0 → List UInt8 → FX TH0} {l : List TD0} {at_ : List UInt8} (hat : at_.length ≤ 1000000) (hl : l.length ≤ 8)
  (hr : ∀ x ∈ l, ∀ i, i ≤ 8 → rc x (plcS at_ i) = some (E x (plcS at_ i))) : ∀ (m i : Nat) (acc : List TH0), i + m = l.length → acc.length ≤ i → ∀ q, m < q →
  aE (dh n rc l at_) q (acc, (i : Int)) = some (match exL E at_ i (l.drop i) with | .inl p => .inl p | .inr xs => .inr (acc ++ xs))
 | m, i, acc, hm, ha, q, hq => by
  obtain ⟨q, rfl⟩ : ∃ r, q = r + 1 := ⟨q - 1, by omega⟩
  rw [aE, dh]
  dsimp only
  by_cases hlt : i < l.length
  ·obtain ⟨m, rfl⟩ : ∃ r, m = r + 1 := ⟨m - 1, by omega⟩
   have hg : aQ l (i : Int) = some l[i] := by simp [aQ, hlt]
   rw [decide_eq_true (by omega : (i : Int) < (l.length : Int)), cT, hg, bnd, plc_own hat (by omega), bnd, hr _ (List.getElem_mem hlt) i (by omega), bnd, List.drop_eq_getElem_cons hlt, exL]
   have ih := fun acc h => mV (n := n) hat hl hr m (i + 1) acc (by omega) h q (by omega)
   cases E l[i] (plcS at_ i) with
   | inl p => rfl
   | inr x =>
    dsimp only
    rw [aX (by omega), aW (by omega) (by omega), bnd]
    have e : (i : Int) + 1 = ((i + 1 : Nat) : Int) := by omega
    have ev : (⟨x.ab, x.aa, x.af, x.ak, x.al, x.fL⟩ : TH0) = x := by cases x; rfl
    dsimp only
    rw [e, ev, ih (acc ++ [x]) (by rw [List.length_append, List.length_singleton]; omega)]
    cases exL E at_ (i + 1) (l.drop (i + 1)) with
    | inl p => rfl
    | inr xs => dsimp only; rw [List.append_assoc]; rfl
  ·rw [decide_eq_false (by omega), cF, bnd, List.drop_eq_nil_of_le (by omega), exL]
   dsimp only
   rw [List.append_nil]
theorem kl {n:Nat} {rc:TD0→Bs→Option (FX TH0)} {E:TD0→Bs→FX TH0} {l:List TD0} {at_:Bs} (hn:100000≤n) (hat:at_.length≤1000000) (hl:l.length≤8)
 (hr: ∀x∈l,∀i,i≤8→rc x (plcS at_ i)=some (E x (plcS at_ i))) (i:Nat) (hi:i≤l.length):cA n rc l (i:Int) at_=some (exL E at_ i (l.drop i)):=by
 unfold cA
 rw[mV hat hl hr (l.length-i) i [] (by omega) (by simp) n (by omega),bnd]
 cases exL E at_ i (l.drop i) with
 |inl p=>rfl
 |inr xs=>rfl
theorem lK {n:Nat} {v:TD0} {at_:Bs}:cS n v 2 121 at_=some (match twoV v with|some _=>.inr v.ac|none=>.inl (121,at_)):=by
 unfold cS
 rcases dY v with⟨a,b,h,hk,hl⟩|⟨h,hk⟩
 ·rw[h,dT hk,cT,dT (by rw[hl];rfl),cT]
 ·rw[h]
  by_cases h4:v.ab=4
  ·rw[dT h4,cT,dF (by rcases hk with hk|hk<;>omega),cF]
  ·rw[dF h4,cF]
theorem list3_own {n:Nat} {v:TD0} {at_:Bs}:cS n v 3 121 at_=some (match threeV v with|some _=>.inr v.ac|none=>.inl (121,at_)):=by
 unfold cS
 rcases iR v with⟨a,b,c,h,hk,hl⟩|⟨h,hk⟩
 ·rw[h,dT hk,cT,dT (by rw[hl];rfl),cT]
 ·rw[h]
  by_cases h4:v.ab=4
  ·rw[dT h4,cT,dF (by rcases hk with hk|hk<;>omega),cF]
  ·rw[dF h4,cF]
theorem c1_own {n:Nat} {v:TD0} {at_:Bs} (hn:100000≤n) (hv:v.aa.length≤5000):eo n v at_=some (c1V v at_):=by
 unfold eo c1V shp
 rw[ng hn hv,bnd]
 cases nameV v<;>rfl
theorem c2_own {n:Nat} {v:TD0} {at_:Bs} (hn:100000≤n) (hv: ∀x∈v.ac,x.aa.length≤5000):ep n v at_=some (c2V v at_):=by
 unfold ep c2V shp
 rw[lK,bnd]
 rcases dY v with⟨a,b,h,hk,hl⟩|⟨h,hk⟩
 ·rw[h]
  dsimp only
  have g0:aQ v.ac 0=some a:=by rw[hl];rfl
  have g1:aQ v.ac 1=some b:=by rw[hl];rfl
  rw[g0,g1,bnd,ng hn (hv a (by simp[hl])),bnd]
  cases nameV a with
  |false=>rfl
  |true=>
   rw[cT,bnd,bnd,Bool.true_and]
   cases hb:decide (b.ab=3) with
   |false=>rfl
   |true=>
    have:=hv b (by simp[hl])
    rw[cT,attr_sub (by omega) (by omega),bnd,Bool.true_and]
    cases attrS b.aa with
    |false=>rfl
    |true=>rfl
 ·rw[h]
theorem c3_own {n:Nat} {v:TD0} {at_:Bs} (hn:100000≤n) (hv:v.aa.length≤5000):eq n v at_=some (c3V v at_):=by
 unfold eq c3V shp
 cases hk:decide (v.ab=3) with
 |false=>rfl
 |true=>
  rw[cT,cT,lex_sub (by omega) (by omega),bnd]
  cases hz:decide ((lexS v.aa).2.2=0) with
  |false=>rfl
  |true=>rfl
theorem c4_own {n:Nat} {rc:TD0→Bs→Option (FX TH0)} {E:TD0→Bs→FX TH0} {v:TD0} {at_:Bs} (hn:100000≤n) (hat:at_.length≤1000000) (hv: ∀x∈v.ac,x.aa.length≤5000)
 (hr: ∀x∈v.ac,∀i,i≤8→rc x (plcS at_ i)=some (E x (plcS at_ i))):er n rc v at_=some (c4V E v at_):=by
 unfold er c4V shp
 rw[list3_own,bnd]
 rcases iR v with⟨a,b,c,h,hk,hl⟩|⟨h,hk⟩
 ·rw[h]
  dsimp only
  have g0:aQ v.ac 0=some a:=by rw[hl];rfl
  rw[g0,bnd,ng hn (hv a (by simp[hl])),bnd]
  cases nameV a with
  |false=>rfl
  |true=>
   rw[cT,cT,bnd]
   have:=kl hn hat (by rw[hl];simp) hr 1 (by rw[hl];simp)
   have e1: ((1:Nat):Int)=1:=rfl
   have e2:v.ac.drop 1=[b,c]:=by rw[hl];rfl
   rw[e1,e2] at this
   rw[this,bnd]
   cases exL E at_ 1 [b,c]<;>rfl
 ·rw[h]
theorem c5_own {n:Nat} {rc:TD0→Bs→Option (FX TH0)} {E:TD0→Bs→FX TH0} {v:TD0} {at_:Bs} (hn:100000≤n) (hat:at_.length≤1000000) (hv: ∀x∈v.ac,x.aa.length≤5000)
 (hr: ∀x∈v.ac,∀i,i≤8→rc x (plcS at_ i)=some (E x (plcS at_ i))):eu n rc v at_=some (c5V E v at_):=by
 unfold eu c5V shp
 rw[lK,bnd]
 rcases dY v with⟨a,b,h,hk,hl⟩|⟨h,hk⟩
 ·rw[h]
  dsimp only
  have g0:aQ v.ac 0=some a:=by rw[hl];rfl
  rw[g0,bnd,word_own hn (hv a (by simp[hl])),bnd]
  cases wordV a with
  |false=>rfl
  |true=>
   rw[cT,cT,bnd]
   have:=kl hn hat (by rw[hl];simp) hr 1 (by rw[hl];simp)
   have e1: ((1:Nat):Int)=1:=rfl
   have e2:v.ac.drop 1=[b]:=by rw[hl];rfl
   rw[e1,e2] at this
   rw[this,bnd]
   cases exL E at_ 1 [b]<;>rfl
 ·rw[h]
theorem c6_own {n:Nat} {rc:TD0→Bs→Option (FX TH0)} {E:TD0→Bs→FX TH0} {v:TD0} {at_:Bs} (hn:100000≤n) (hat:at_.length≤1000000)
 (hr: ∀x∈v.ac,∀i,i≤8→rc x (plcS at_ i)=some (E x (plcS at_ i))):ew n rc v at_=some (c6V E v at_):=by
 unfold ew c6V shp
 rw[lK,bnd]
 rcases dY v with⟨a,b,h,hk,hl⟩|⟨h,hk⟩
 ·rw[h]
  dsimp only
  have:=kl hn hat (by rw[hl];simp) hr 0 (by rw[hl];simp)
  have e1: ((0:Nat):Int)=0:=rfl
  have e2:v.ac.drop 0=[a,b]:=by rw[hl];rfl
  rw[e1,e2] at this
  rw[this,bnd]
  cases exL E at_ 0 [a,b]<;>rfl
 ·rw[h]
theorem one_key {v:TD0} (hp:PlainV v) (hk:v.ab=5) (h1:v.ae.length=1): ∃key x,v.ae=[key]∧v.ac=[x]:=by
 have hl:v.ae.length=v.ac.length:=hp.2.2.2.2.2.2.1 hk
 match hks:v.ae,hls:v.ac with
 |[key],[x]=>exact⟨key,x,rfl,rfl⟩
 |[key],[]=>rw[hks,hls] at hl;simp at hl
 |[key],_::_::_=>rw[hks,hls] at hl;simp at hl
 |[],_=>rw[hks] at h1;simp at h1
 |_::_::_,_=>rw[hks] at h1;simp at h1
theorem jh {E:TD0→Bs→FX TH0} {v:TD0} {at_:Bs} (h3:v.ab≠3) (h2:v.ab≠2) (h4:v.ab≠4) (h1:v.ae.length≠1):exprB E v at_=shp at_:=by
 unfold exprB
 rw[dF h3,cF,dF h2,cF,dF h4,cF]
 match hks:v.ae with
 |[]=>rfl
 |[_]=>rw[hks] at h1;simp at h1
 |_::_::_=>rfl
theorem mS {E:TD0→Bs→FX TH0} {v x:TD0} {key at_:Bs} (h5:v.ab=5) (hk:v.ae=[key]) (hl:v.ac=[x]):exprB E v at_=callV E key x (undS at_ key):=by
 unfold exprB
 rw[dF (by omega),cF,dF (by omega),cF,dF (by omega),cF,hk,hl]
theorem joinbr {α β:Type} (x:Option β) (f:α→Option β): ((x.map Lp.br:Option (Lp α β)).bind λj=>joinF j f)=x:=by cases x<;>rfl
theorem js: ∀ {d:Nat} {x y:TD0},Small d x→y∈x.ac→Small d y
 |0,_,_,h,_=>h.elim
 |_+1,_,_,h,hy=>Small.le (Nat.le_succ _) (h.2.2.2.2 _ hy)
theorem mU {n:Nat} (hn:100000≤n): ∀ (k d:Nat) (v:TD0) (at_:Bs),d≤k→Small d v→OkV v→at_.length+6000*d≤900000→ca n k v at_=some (exprV d v at_)
 |_,0,v,_,_,h,_,_=>h.elim
 |0,d+1,v,_,h,_,_,_=>absurd h (by omega)
 |k+1,d+1,v,at_,hk,hs,hok,hat=>by
  have hs0:=hs
  obtain⟨s1,s2,s3,s4,s5⟩:=hs
  have hp:=OkV.plain hok
  have ih: ∀x∈v.ac,∀p:Bs,p.length+6000*d≤900000→ca n k x p=some (exprV d x p):=λx hx p h=>mU hn k d x p (by omega) (s5 x hx) (hok.part hx) h
  show eP n (ca n k) v at_=some (exprB (exprV d) v at_)
  unfold eP
  cases h3:decide (v.ab=3) with
  |true=>
   rw[cT,word_own hn s3,bnd,exprB,h3,cT]
   cases wordV v<;>rfl
  |false=>
   rw[cF]
   cases h2:decide (v.ab=2) with
   |true=>rw[cT,exprB,h3,cF,h2,cT]
   |false=>
    rw[cF]
    cases h4:decide (v.ab=4) with
    |true=>
     rw[cT,exprB,h3,cF,h2,cF,h4,cT]
     cases h8:decide (((v.ac.length:Nat):Int)≤8) with
     |false=>rfl
     |true=>
      have h8':=of_decide_eq_true h8
      have:=kl hn (E:=exprV d) (rc:=ca n k) (l:=v.ac) (at_:=at_) (by omega) (by omega) (λx hx i hi=>ih x hx _ (by have:=li (a:=at_) hi;omega)) 0 (by omega)
      have e1: ((0:Nat):Int)=0:=rfl
      rw[e1,List.drop_zero] at this
      rw[cT,cT,this,bnd]
      cases exL (exprV d) at_ 0 v.ac<;>rfl
    |false=>
     have k3:=of_decide_eq_false h3
     have k2:=of_decide_eq_false h2
     have k4:=of_decide_eq_false h4
     rw[cF]
     cases h5:decide (v.ab=5) with
     |false=>
      rw[cF,jh k3 k2 k4 (λh=>of_decide_eq_false h5 (Classical.byContradiction λh'=>by have:=hp.2.2.2.2.2.2.2 h';omega)),joinbr]
      rfl
     |true=>
      rw[cT]
      cases h1:decide (((v.ae.length:Nat):Int)=1) with
      |false=>
       rw[cF,jh k3 k2 k4 (λh=>of_decide_eq_false h1 (by omega)),joinbr]
       rfl
      |true=>
       obtain⟨key,x,hks,hls⟩:=one_key hp (of_decide_eq_true h5) (by have:=of_decide_eq_true h1;omega)
       have hx:x∈v.ac:=by rw[hls];simp
       have hkey:key.length≤5000:=s4 key (by rw[hks];simp)
       have hxs:x.aa.length≤5000:=(Small.wide (s5 x hx)).2.2.1
       have hxl: ∀y∈x.ac,y.aa.length≤5000:=λy hy=>(Small.wide (js (s5 x hx) hy)).2.2.1
       have g0:aQ v.ae 0=some key:=by rw[hks];rfl
       have g1:aQ v.ac 0=some x:=by rw[hls];rfl
       have hu:=und_own (n:=n) (a:=at_) (k:=key) (by omega) (by omega)
       have hul:=ny at_ key
       have hr: ∀y∈x.ac,∀i,i≤8→ca n k y (plcS (undS at_ key) i)=some (exprV d y (plcS (undS at_ key) i)):=λy hy i hi=>by
        have hpl:=li (a:=undS at_ key) hi
        exact mU hn k d y (plcS (undS at_ key) i) (by omega) (js (s5 x hx) hy) ((hok.part hx).part hy) (by omega)
       rw[mS (of_decide_eq_true h5) hks hls,cT,bnd,joinF,g0,bnd,nX,bnd]
       unfold callV
       cases decide (key=[82,101,102]) with
       |true=>rw[cT,cT,hu,bnd,g1,bnd,bnd,c1_own hn hxs,bnd];cases c1V x (undS at_ key)<;>rfl
       |false=>
        rw[cF,cF]
        cases decide (key=[71,101,116,65,116,116]) with
        |true=>rw[cT,cT,hu,bnd,g1,bnd,bnd,c2_own hn hxl,bnd];cases c2V x (undS at_ key)<;>rfl
        |false=>
         rw[cF,cF]
         cases decide (key=[83,117,98]) with
         |true=>rw[cT,cT,hu,bnd,g1,bnd,bnd,c3_own hn hxs,bnd];cases c3V x (undS at_ key)<;>rfl
         |false=>
          rw[cF,cF]
          cases decide (key=[73,102]) with
          |true=>rw[cT,cT,hu,bnd,g1,bnd,bnd,c4_own hn (by omega) hxl hr,bnd];cases c4V (exprV d) x (undS at_ key)<;>rfl
          |false=>
           rw[cF,cF]
           cases decide (key=[74,111,105,110]) with
           |true=>rw[cT,cT,hu,bnd,g1,bnd,bnd,c5_own hn (by omega) hxl hr,bnd];cases c5V (exprV d) x (undS at_ key)<;>rfl
           |false=>
            rw[cF,cF]
            cases decide (key=[83,101,108,101,99,116]) with
            |true=>rw[cT,cT,hu,bnd,g1,bnd,bnd,c6_own hn (by omega) hr,bnd];cases c6V (exprV d) x (undS at_ key)<;>rfl
            |false=>
             rw[cF,cF,hu,bnd]
             rfl
end Go.Proofs.YtkopljikappieaaGreatDoor
end
