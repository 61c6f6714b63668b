/-
  Texts of this claim, packed (what nothing names is left out): TreeM, Q3, Q4, Q6, Q2, SubM, X0, X0h. Own work, partly printed by own programs. No condition.
-/
import Derived.Test.YtkopljikappieaaGreatDoorPkL2
import Derived.Test.YtkopljikappieaaGreatDoorRows
import Derived.Lib.IndexLaws
import Derived.Test.YtkopljikappieaaGreatDoorPkL1
set_option linter.unusedVariables false
set_option linter.unusedSimpArgs false
set_option maxHeartbeats 2000000
section
section
namespace Go.Proofs.YtkopljikappieaaGreatDoor
open Go Go.Vc Go.RowKit
def Small:Nat→TE0→Prop
 |0,_=>False
 |d+1,v=>v.ac.length≤3000∧v.af.length≤3000∧v.aa.length≤5000∧(∀k∈v.af,k.length≤5000)∧∀x∈v.ac,Small d x
theorem nk: ∀ (l m:List TE0),bU (l++m)=bU l++bU m
 |[],m=>by simp[bU]
 |x::r,m=>by simp[bU,nk r m]
theorem od {l:List TE0} {i:Nat} {x:TE0} (h:l[i]? =some x):bU (l.take (i+1))=bU (l.take i)++dr x:=by
 rw[List.take_add_one,h,nk]
 simp[bU]
theorem tR {n : Nat} (hn : 3000 < n) : ∀ (k d : Nat) (v : TE0), d < k → d ≤ 1000 → ∃ W : Int, dR n k v (d : Int) = some W ∧ 0 ≤ W ∧ W ≤ 30010001 + 10000 * d ∧ (W ≤ 5000 → Small d v ∧ ((dr v).length : Int) ≤ W)
 | 0, d, v, h, _ => absurd h (by omega)
 | k + 1, d, v, h, hd => by
  show ∃ W : Int, iY n (dR n k) v (d : Int) = some W ∧ _
  unfold iY
  by_cases h0 : d = 0 ∨ 3000 < v.ac.length ∨ 3000 < v.af.length
  ·have e : (bif decide ((d : Int) = 0) then some true else bif decide ((3000 : Int) < ((v.ac.length : Nat) : Int)) then some true else some (decide ((3000 : Int) < ((v.af.length : Nat) : Int))) : Option Bool) = some true := by
    by_cases a : (d : Int) = 0
    ·rw [decide_eq_true a, cT]
    rw [decide_eq_false a, cF]
    by_cases b : (3000 : Int) < ((v.ac.length : Nat) : Int)
    ·rw [decide_eq_true b, cT]
    rw [decide_eq_false b, cF, decide_eq_true (by omega)]
   rw [e, bnd, cT]
   exact ⟨10000, rfl, by omega, by omega, fun h => absurd h (by omega)⟩
  have e : (bif decide ((d : Int) = 0) then some true else bif decide ((3000 : Int) < ((v.ac.length : Nat) : Int)) then some true else some (decide ((3000 : Int) < ((v.af.length : Nat) : Int))) : Option Bool) = some false := by
   rw [decide_eq_false (by omega), cF, decide_eq_false (by omega), cF, decide_eq_false (by omega)]
  rw [e, bnd, cF]
  obtain ⟨base, hbase⟩ : ∃ base : Int, base = (1 : Int) + (min (v.aa.length : Int) (10000 : Int)) := ⟨_, rfl⟩
  rw [← hbase, aI (by omega) (by omega)]
  obtain ⟨y, hy, hy1, hy2, hy3⟩ := gD (step := eP n v) (n := n) (s0 := (base, (0 : Int)))
   (fun k s => s.2 = (k : Int) ∧ base ≤ s.1 ∧ s.1 ≤ base + 10000 * k ∧ (s.1 ≤ 5000 → ∀ j, j < k → (v.af.getD j []).length ≤ 5000))
   (fun b => base ≤ b ∧ b ≤ base + 10000 * v.af.length ∧ (b ≤ 5000 → ∀ j, j < v.af.length → (v.af.getD j []).length ≤ 5000)) v.af.length
   ⟨rfl, Int.le_refl _, by simp, fun _ j hj => absurd hj (by omega)⟩
   (fun q s hq hI => by
    obtain ⟨t, i⟩ := s
    obtain ⟨h1, h2, h3, h4⟩ := hI
    have h1' : i = (q : Int) := h1
    subst h1'
    left
    refine ⟨(t + min ((v.af.getD q []).length : Int) 10000, (q : Int) + 1), ?_, by simp, ?_, ?_, ?_⟩
    ·show eP n v (t, (q : Int)) = _
     unfold eP
     dsimp only at h2 h3 ⊢
     rw [decide_eq_true (by omega), cT, dQ [] hq, bnd, aI (by omega) (by omega), aI (by omega) (by omega)]
    ·dsimp only at h2 ⊢; omega
    ·dsimp only at h3 ⊢; push_cast; omega
    dsimp only at h4 ⊢
    intro hle j hj
    by_cases hjq : j = q
    ·subst hjq; omega
    exact h4 (by omega) j (by omega))
   (fun s hI => by
    obtain ⟨t, i⟩ := s
    obtain ⟨h1, h2, h3, h4⟩ := hI
    have h1' : i = (v.af.length : Int) := h1
    subst h1'
    refine ⟨t, ?_, h2, h3, h4⟩
    unfold eP
    dsimp only
    rw [decide_eq_false (by omega), cF])
   (by omega)
  rw [hy, bnd]
  obtain ⟨z, hz, hz1, hz2, hz3⟩ := gD (step := dX n (dR n k) v (d : Int)) (n := n) (s0 := (y, (0 : Int)))
   (fun k s => s.2 = (k : Int) ∧ y ≤ s.1 ∧ s.1 ≤ 30010001 + 10000 * d ∧ (s.1 ≤ 5000 → (∀ j x, j < k → v.ac[j]? = some x → Small (d - 1) x) ∧ ((bU (v.ac.take k)).length : Int) + 1 ≤ s.1))
   (fun b => y ≤ b ∧ b ≤ 30010001 + 10000 * d ∧ (b ≤ 5000 → (∀ j x, j < v.ac.length → v.ac[j]? = some x → Small (d - 1) x) ∧ ((bU v.ac).length : Int) + 1 ≤ b)) v.ac.length
   ⟨rfl, Int.le_refl _, by omega, fun _ => ⟨fun j x hj => absurd hj (by omega), by simp [bU]; omega⟩⟩
   (fun q s hq hI => by
    obtain ⟨t, i⟩ := s
    obtain ⟨h1, h2, h3, h4⟩ := hI
    have h1' : i = (q : Int) := h1
    subst h1'
    dsimp only at h2 h3 h4
    by_cases ht : t ≤ 10000
    ·left
     have hx : v.ac[q]? = some v.ac[q] := List.getElem?_eq_getElem hq
     obtain ⟨W, w1, w2, w3, w4⟩ := tR hn k (d - 1) v.ac[q] (by omega) (by omega)
     have hd1 : ((d - 1 : Nat) : Int) = (d : Int) - 1 := by omega
     rw [hd1] at w1
     refine ⟨(t + W, (q : Int) + 1), ?_, by simp, ?_, ?_, ?_⟩
     ·show dX n (dR n k) v (d : Int) (t, (q : Int)) = _
      unfold dX
      dsimp only
      have hg : aB v.ac (q : Int) = some v.ac[q] := by simp [aB]
      rw [decide_eq_true (by omega), cT, bnd, decide_eq_true ht, cT, hg, bnd, aI (by omega) (by omega), w1, bnd, aI (by omega) (by omega), aI (by omega) (by omega)]
     ·dsimp only; omega
     ·dsimp only; omega
     dsimp only
     intro hle
     obtain ⟨s1, s2⟩ := h4 (by omega)
     obtain ⟨c1, c2⟩ := w4 (by omega)
     refine ⟨fun j x hj hjx => ?_, ?_⟩
     ·by_cases hjq : j = q
      ·subst hjq
       rw [hx] at hjx
       exact Option.some.inj hjx ▸ c1
      exact s1 j x (by omega) hjx
     rw [od hx, List.length_append]
     omega
    right
    refine ⟨t, ?_, h2, h3, fun hle => absurd hle (by omega)⟩
    unfold dX
    dsimp only
    rw [decide_eq_true (by omega), cT, bnd, decide_eq_false ht, cF])
   (fun s hI => by
    obtain ⟨t, i⟩ := s
    obtain ⟨h1, h2, h3, h4⟩ := hI
    have h1' : i = (v.ac.length : Int) := h1
    subst h1'
    dsimp only at h2 h3 h4
    rw [List.take_length] at h4
    refine ⟨t, ?_, h2, h3, h4⟩
    unfold dX
    dsimp only
    rw [decide_eq_false (by omega), cF, bnd, cF])
   (by omega)
  rw [hz, bnd]
  refine ⟨z, rfl, by omega, hz2, fun hle => ?_⟩
  obtain ⟨s1, s2⟩ := hz3 hle
  have s3 := hy3 (by omega)
  obtain ⟨d, rfl⟩ : ∃ e, d = e + 1 := ⟨d - 1, by omega⟩
  refine ⟨⟨by omega, by omega, by omega, fun q hq => ?_, fun x hx => ?_⟩, ?_⟩
  ·obtain ⟨j, hj, rfl⟩ := List.getElem_of_mem hq
   have := s3 j hj
   simpa [hj] using this
  ·obtain ⟨j, hj, rfl⟩ := List.getElem_of_mem hx
   exact s1 j _ hj (List.getElem?_eq_getElem hj)
  rw [jn, List.length_cons]
  push_cast
  omega
end Go.Proofs.YtkopljikappieaaGreatDoor
end
section
namespace Go.Proofs.YtkopljikappieaaGreatDoor
open Go Go.Vc
theorem and_tab: ((List.range 256).all λc=>bAnd .i64 (c:Int) 31== ((c % 32:Nat):Int)&& (bAnd .i64 (c:Int) 15== ((c % 16:Nat):Int)&&bAnd .i64 (c:Int) 7== ((c % 8:Nat):Int)))=true:=by kernel_rfl
theorem and_low (c:UInt8):bAnd .i64 (c.toNat:Int) 31=((c.toNat % 32:Nat):Int)∧bAnd .i64 (c.toNat:Int) 15=((c.toNat % 16:Nat):Int)∧bAnd .i64 (c.toNat:Int) 7=((c.toNat % 8:Nat):Int):=by
 have h:=List.all_eq_true.1 and_tab c.toNat (List.mem_range.2 c.toNat_lt)
 simp only[Bool.and_eq_true,beq_iff_eq] at h
 exact h
theorem qy {n:Nat} {s:Bs} {i k:Nat} {y:Int×Int×Int} {r w:Nat} (hy:y.1=(w:Int)) (hk:k<w) (hi:i+w≤s.length) (hs:s.length<1000000) (hr:r<1000000000):
 eq n s i y ((r:Int),(k:Int))=some (if (s.getD (i+k) 0).toNat / 64=2 then .nx (((64*r+ (s.getD (i+k) 0).toNat % 64:Nat):Int),((k+1:Nat):Int)) else .br (.inl ())):=by
 unfold eq
 dsimp only
 have e: (i:Int)+ (k:Int)=((i+k:Nat):Int):=by omega
 rw[hy,dT (by omega: (k:Int)<(w:Int)),cT,aI (by omega) (by omega),e,dQ 0 (by omega),bnd]
 have hb:=(s.getD (i+k) 0).toNat_lt
 generalize (s.getD (i+k) 0)=b at hb ⊢
 by_cases h1:b.toNat<128
 ·rw[dT (by omega: (b.toNat:Int)<128),cT,bnd,cT,if_neg (by omega)]
 rw[dF (by omega: ¬ (b.toNat:Int)<128),cF,bnd]
 by_cases h2:191<b.toNat
 ·rw[dT (by omega: (191:Int)<(b.toNat:Int)),cT,if_neg (by omega)]
 rw[dF (by omega: ¬ (191:Int)<(b.toNat:Int)),cF,if_pos (by omega),aI (by omega) (by omega),aI (by omega) (by omega),aI (by omega) (by omega),aI (by omega) (by omega)]
 congr 3
 ·omega
theorem one_s1e {n:Nat} {s:Bs} {i:Nat} {y:Int×Int×Int} {r:Int} {w:Nat} (hy:y.1=(w:Int)):
 eq n s i y (r,(w:Int))=some (.br (.inr r)):=by
 unfold eq
 dsimp only
 rw[hy,dF (by omega: ¬ (w:Int)<(w:Int)),cF]
def contB (s:Bs) (i:Nat):Bool:=decide ((s.getD i 0).toNat / 64=2)
theorem one_l2 {n:Nat} {s:Bs} {i:Nat} {y:Int×Int×Int} {r:Nat} (hy:y.1=2) (hi:i+2≤s.length) (hs:s.length<1000000) (hr:r<100) (hn:5≤n):
 au (eq n s i y) n ((r:Int),(1:Int))=some (if contB s (i+1) then .inr (((64*r+ (s.getD (i+1) 0).toNat % 64:Nat):Int)) else .inl ()):=by
 obtain⟨n,rfl⟩: ∃q,n=q+5:=⟨n-5,by omega⟩
 have h1:=qy (n:=n+5) (k:=1) (w:=2) hy (by omega) hi hs (by omega:r<1000000000)
 rw[show((1:Nat):Int)=1 from rfl] at h1
 rw[au,h1,bnd]
 unfold contB
 by_cases h2: (s.getD (i+1) 0).toNat / 64=2
 ·rw[if_pos h2,if_pos (by simpa using h2)]
  show au _ (n+4) _=_
  rw[au,one_s1e (w:=2) hy,bnd]
 rw[if_neg h2,if_neg (by simpa using h2)]
theorem one_l3 {n:Nat} {s:Bs} {i:Nat} {y:Int×Int×Int} {r:Nat} (hy:y.1=3) (hi:i+3≤s.length) (hs:s.length<1000000) (hr:r<100) (hn:5≤n):
 au (eq n s i y) n ((r:Int),(1:Int))=some (if contB s (i+1)&&contB s (i+2) then .inr (((64* (64*r+ (s.getD (i+1) 0).toNat % 64)+ (s.getD (i+2) 0).toNat % 64:Nat):Int)) else .inl ()):=by
 obtain⟨n,rfl⟩: ∃q,n=q+5:=⟨n-5,by omega⟩
 have h1:=qy (n:=n+5) (k:=1) (w:=3) hy (by omega) hi hs (by omega:r<1000000000)
 rw[show((1:Nat):Int)=1 from rfl] at h1
 rw[au,h1,bnd]
 unfold contB
 by_cases h2: (s.getD (i+1) 0).toNat / 64=2
 ·rw[if_pos h2]
  show au _ (n+4) _=_
  rw[au,qy (n:=n+5) (k:=2) (w:=3) hy (by omega) hi hs (by omega),bnd]
  by_cases h3: (s.getD (i+2) 0).toNat / 64=2
  ·rw[if_pos h3,if_pos (by simp only[h2,h3];rfl)]
   show au _ (n+3) _=_
   rw[au,one_s1e (w:=3) hy,bnd]
  rw[if_neg h3,if_neg (by simp only[h2,h3];decide)]
 rw[if_neg h2,if_neg (by simp only[h2];simp)]
theorem one_l4 {n:Nat} {s:Bs} {i:Nat} {y:Int×Int×Int} {r:Nat} (hy:y.1=4) (hi:i+4≤s.length) (hs:s.length<1000000) (hr:r<100) (hn:5≤n):
 au (eq n s i y) n ((r:Int),(1:Int))=some (if contB s (i+1)&& (contB s (i+2)&&contB s (i+3)) then .inr (((64* (64* (64*r+ (s.getD (i+1) 0).toNat % 64)+ (s.getD (i+2) 0).toNat % 64)+ (s.getD (i+3) 0).toNat % 64:Nat):Int)) else .inl ()):=by
 obtain⟨n,rfl⟩: ∃q,n=q+5:=⟨n-5,by omega⟩
 have h1:=qy (n:=n+5) (k:=1) (w:=4) hy (by omega) hi hs (by omega:r<1000000000)
 rw[show((1:Nat):Int)=1 from rfl] at h1
 rw[au,h1,bnd]
 unfold contB
 by_cases h2: (s.getD (i+1) 0).toNat / 64=2
 ·rw[if_pos h2]
  show au _ (n+4) _=_
  rw[au,qy (n:=n+5) (k:=2) (w:=4) hy (by omega) hi hs (by omega),bnd]
  by_cases h3: (s.getD (i+2) 0).toNat / 64=2
  ·rw[if_pos h3]
   show au _ (n+3) _=_
   rw[au,qy (n:=n+5) (k:=3) (w:=4) hy (by omega) hi hs (by omega),bnd]
   by_cases h4: (s.getD (i+3) 0).toNat / 64=2
   ·rw[if_pos h4,if_pos (by simp only[h2,h3,h4];rfl)]
    show au _ (n+2) _=_
    rw[au,one_s1e (w:=4) hy,bnd]
   rw[if_neg h4,if_neg (by simp only[h2,h3,h4];decide)]
  rw[if_neg h3,if_neg (by simp only[h2,h3];simp)]
 rw[if_neg h2,if_neg (by simp only[h2];simp)]
theorem one_ref {n:Nat} {s:Bs} {i:Nat} (hi:i<s.length) (hs:s.length<1000000) (hn:5≤n):
 mx n s i=some (if (Lib.decodeL (s.drop i)).1=65533∧(Lib.decodeL (s.drop i)).2=1 then(0,0) else(((Lib.decodeL (s.drop i)).1:Int),((Lib.decodeL (s.drop i)).2:Int))):=by
 rw[Lib.decodeL_N,List.length_drop,Lib.getD_dropU,Lib.getD_dropU,Lib.getD_dropU,Lib.getD_dropU,Nat.add_zero]
 unfold mx
 rw[dF (by omega: ¬ (i:Int)<0),cF,dF (by omega: ¬ (s.length:Int)≤(i:Int)),bnd,cF,dQ 0 hi,bnd]
 have hb0:=(s.getD i 0).toNat_lt
 have hb1:=(s.getD (i+1) 0).toNat_lt
 have hb2:=(s.getD (i+2) 0).toNat_lt
 have hb3:=(s.getD (i+3) 0).toNat_lt
 obtain⟨a1,a2,a3⟩:=and_low (s.getD i 0)
 by_cases h0: (s.getD i 0).toNat<128
 ·rw[dT (by omega: ((s.getD i 0).toNat:Int)<128),cT,Lib.decodeN_ascii _ _ _ _ _ h0]
  rw[mpS,bnd,jB,if_neg (by dsimp only;omega)]
  rfl
 rw[dF (by omega: ¬ ((s.getD i 0).toNat:Int)<128),cF]
 generalize hD:Lib.decodeN (s.length-i) (s.getD i 0).toNat (s.getD (i+1) 0).toNat (s.getD (i+2) 0).toNat (s.getD (i+3) 0).toNat=D
 have hB:D=(65533,1)→some ((0:Int),(0:Int))=some (if D.1=65533∧D.2=1 then(0,0) else((D.1:Int),(D.2:Int))):=λe=>by rw[e];rfl
 have hG: ∀ (R w:Nat),D=(R,w)→1<w→some ((R:Int),(w:Int))=some (if D.1=65533∧D.2=1 then(0,0) else((D.1:Int),(D.2:Int))):=λR w e hw=>by rw[e,if_neg (by dsimp only;omega)]
 have bad: (s.getD i 0).toNat<192∨248≤(s.getD i 0).toNat→D=(65533,1):=λhb=>by
  rw[←hD]
  unfold Lib.decodeN
  rw[if_neg h0,if_neg (by omega),if_neg (by omega),if_neg (by omega)]
 by_cases h1:192≤(s.getD i 0).toNat
 case neg=>
  rw[dF (by omega: ¬ (192:Int)≤((s.getD i 0).toNat:Int)),cF,bnd,cF,dF (by omega: ¬ (224:Int)≤((s.getD i 0).toNat:Int)),cF,bnd,cF,dF (by omega: ¬ (240:Int)≤((s.getD i 0).toNat:Int)),cF,bnd,cF,mpS,bnd,jB]
  exact hB (bad (by omega))
 rw[dT (by omega: (192:Int)≤((s.getD i 0).toNat:Int)),cT]
 by_cases h2: (s.getD i 0).toNat<224
 ·rw[dT (by omega: ((s.getD i 0).toNat:Int)<224),bnd,cT,a1,bnd]
  rw[jN]
  dsimp only
  rw[aI (by omega) (by omega)]
  unfold Lib.decodeN at hD
  rw[if_neg h0] at hD
  by_cases hl:s.length<i+2
  ·rw[dT (by omega: (s.length:Int)<(i:Int)+2),cT]
   exact hB (by rw[←hD,if_neg (by omega),if_neg (by omega),if_neg (by omega)])
  rw[dF (by omega: ¬ (s.length:Int)<(i:Int)+2),cF,one_l2 rfl (by omega) hs (by omega) hn,bnd]
  unfold contB
  by_cases hc: (s.getD (i+1) 0).toNat / 64=2
  ·rw[if_pos (by simp only[hc];rfl)]
   rw[if_pos ⟨by omega,by omega,hc⟩] at hD
   dsimp only
   generalize hR: (64* ((s.getD i 0).toNat % 32)+ (s.getD (i+1) 0).toNat % 64)=R
   rw[show(s.getD i 0).toNat % 32*64+ (s.getD (i+1) 0).toNat % 64=R by omega] at hD
   have hR2:R<2048:=by omega
   by_cases hv:R≥128
   ·rw[if_pos hv] at hD
    rw[dF (by omega: ¬ (R:Int)<128),cF,dF (by omega: ¬ (1114111:Int)<(R:Int)),cF,dF (by omega: ¬ (55296:Int)≤(R:Int)),cF,bnd,cF]
    exact hG R 2 hD.symm (by omega)
   rw[if_neg hv] at hD
   rw[dT (by omega: (R:Int)<128),cT,bnd,cT]
   exact hB hD.symm
  rw[if_neg (by simp only[hc];decide)]
  exact hB (by rw[←hD,if_neg (by omega),if_neg (by omega),if_neg (by omega)])
 rw[dF (by omega: ¬ ((s.getD i 0).toNat:Int)<224),bnd,cF,dT (by omega: (224:Int)≤((s.getD i 0).toNat:Int)),cT]
 by_cases h3: (s.getD i 0).toNat<240
 ·rw[dT (by omega: ((s.getD i 0).toNat:Int)<240),bnd,cT,a2,bnd]
  rw[jN]
  dsimp only
  rw[aI (by omega) (by omega)]
  unfold Lib.decodeN at hD
  rw[if_neg h0,if_neg (by omega)] at hD
  by_cases hl:s.length<i+3
  ·rw[dT (by omega: (s.length:Int)<(i:Int)+3),cT]
   exact hB (by rw[←hD,if_neg (by omega),if_neg (by omega)])
  rw[dF (by omega: ¬ (s.length:Int)<(i:Int)+3),cF,one_l3 rfl (by omega) hs (by omega) hn,bnd]
  unfold contB
  by_cases hc: (s.getD (i+1) 0).toNat / 64=2∧(s.getD (i+2) 0).toNat / 64=2
  ·rw[if_pos (by simp only[hc];rfl)]
   rw[if_pos ⟨by omega,⟨by omega,hc.1⟩,by omega,hc.2⟩] at hD
   dsimp only
   generalize hR: (64* (64* ((s.getD i 0).toNat % 16)+ (s.getD (i+1) 0).toNat % 64)+ (s.getD (i+2) 0).toNat % 64)=R
   rw[show(s.getD i 0).toNat % 16*4096+ (s.getD (i+1) 0).toNat % 64*64+ (s.getD (i+2) 0).toNat % 64=R by omega] at hD
   have hR2:R<65536:=by omega
   by_cases hv:R<2048
   ·rw[dT (by omega: (R:Int)<2048),cT,bnd,cT]
    exact hB (by rw[←hD,if_neg (by omega)])
   rw[dF (by omega: ¬ (R:Int)<2048),cF,dF (by omega: ¬ (1114111:Int)<(R:Int)),cF]
   by_cases hv2:55296≤R
   ·rw[dT (by omega: (55296:Int)≤(R:Int)),cT,bnd]
    by_cases hv3:R≤57343
    ·rw[dT (by omega: (R:Int)≤57343),cT]
     exact hB (by rw[←hD,if_neg (by omega)])
    rw[dF (by omega: ¬ (R:Int)≤57343),cF]
    exact hG R 3 (by rw[←hD,if_pos (by omega)]) (by omega)
   rw[dF (by omega: ¬ (55296:Int)≤(R:Int)),cF,bnd,cF]
   exact hG R 3 (by rw[←hD,if_pos (by omega)]) (by omega)
  rw[if_neg (by simp only[Bool.and_eq_true,decide_eq_true_eq];exact hc)]
  exact hB (by rw[←hD,if_neg (by omega),if_neg (by omega)])
 rw[dF (by omega: ¬ ((s.getD i 0).toNat:Int)<240),bnd,cF,dT (by omega: (240:Int)≤((s.getD i 0).toNat:Int)),cT]
 by_cases h4: (s.getD i 0).toNat<248
 ·rw[dT (by omega: ((s.getD i 0).toNat:Int)<248),bnd,cT,a3,bnd]
  rw[jN]
  dsimp only
  rw[aI (by omega) (by omega)]
  unfold Lib.decodeN at hD
  rw[if_neg h0,if_neg (by omega),if_neg (by omega)] at hD
  by_cases hl:s.length<i+4
  ·rw[dT (by omega: (s.length:Int)<(i:Int)+4),cT]
   exact hB (by rw[←hD,if_neg (by omega)])
  rw[dF (by omega: ¬ (s.length:Int)<(i:Int)+4),cF,one_l4 rfl (by omega) hs (by omega) hn,bnd]
  unfold contB
  by_cases hc: (s.getD (i+1) 0).toNat / 64=2∧(s.getD (i+2) 0).toNat / 64=2∧(s.getD (i+3) 0).toNat / 64=2
  ·rw[if_pos (by simp only[hc];rfl)]
   rw[if_pos ⟨by omega,⟨by omega,hc.1⟩,⟨by omega,hc.2.1⟩,by omega,hc.2.2⟩] at hD
   dsimp only
   generalize hR: (64* (64* (64* ((s.getD i 0).toNat % 8)+ (s.getD (i+1) 0).toNat % 64)+ (s.getD (i+2) 0).toNat % 64)+ (s.getD (i+3) 0).toNat % 64)=R
   rw[show(s.getD i 0).toNat % 8*262144+ (s.getD (i+1) 0).toNat % 64*4096+ (s.getD (i+2) 0).toNat % 64*64+ (s.getD (i+3) 0).toNat % 64=R by omega] at hD
   have hR2:R<16777216:=by omega
   by_cases hv:R<65536
   ·rw[dT (by omega: (R:Int)<65536),cT,bnd,cT]
    exact hB (by rw[←hD,if_neg (by omega)])
   rw[dF (by omega: ¬ (R:Int)<65536),cF]
   by_cases hv2:1114111<R
   ·rw[dT (by omega: (1114111:Int)<(R:Int)),cT,bnd,cT]
    exact hB (by rw[←hD,if_neg (by omega)])
   rw[dF (by omega: ¬ (1114111:Int)<(R:Int)),cF,dT (by omega: (55296:Int)≤(R:Int)),cT,bnd,dF (by omega: ¬ (R:Int)≤57343),cF]
   exact hG R 4 (by rw[←hD,if_pos (by omega)]) (by omega)
  rw[if_neg (by simp only[Bool.and_eq_true,decide_eq_true_eq];exact hc)]
  exact hB (by rw[←hD,if_neg (by omega)])
 rw[dF (by omega: ¬ ((s.getD i 0).toNat:Int)<248),bnd,cF,mpS,bnd,jB]
 exact hB (bad (by omega))
theorem sF {n : Nat} {s : List UInt8} (hs : s.length < 1000000) (hn : 5 ≤ n) : ∀ (m i : Nat), s.length ≤ i + m → i ≤ s.length → ∀ q, m < q → au (ey n s) q (i : Int) = some (if Lib.validD (s.drop i) then .inr () else .inl ())
 | 0, i, hm, hi, q, hq => by
  obtain ⟨q, rfl⟩ : ∃ r, q = r + 1 := ⟨q - 1, by omega⟩
  have e : s.drop i = [] := List.drop_eq_nil_of_le (by omega)
  rw [au, e]
  unfold ey
  rw [decide_eq_false (by omega), cF, bnd]
  rfl
 | m + 1, i, hm, hi, q, hq => by
  obtain ⟨q, rfl⟩ : ∃ r, q = r + 1 := ⟨q - 1, by omega⟩
  by_cases hlt : i < s.length
  ·have hne : s.drop i ≠ [] := fun e => by
    have := congrArg List.length e
    rw [List.length_drop] at this
    simp at this
    omega
   have hst : ey n s (i : Int) = some (if (Lib.decodeL (s.drop i)).1 = 65533 ∧ (Lib.decodeL (s.drop i)).2 = 1 then .br (.inl ()) else .nx (((i + (Lib.decodeL (s.drop i)).2 : Nat) : Int))) := by
    unfold ey
    rw [decide_eq_true (by omega : (i : Int) < (s.length : Int)), cT, one_ref hlt hs hn, bnd]
    by_cases hb : (Lib.decodeL (s.drop i)).1 = 65533 ∧ (Lib.decodeL (s.drop i)).2 = 1
    ·rw [if_pos hb, if_pos hb]
     rfl
    rw [if_neg hb, if_neg hb]
    have hw := Lib.decodeL_width (s.drop i)
    have hw4 : (Lib.decodeL (s.drop i)).2 ≤ 4 := by
     rcases ql (s.drop i) hne with ⟨e, _⟩ | ⟨r, w, e, h1, h2, h3, _⟩
     ·rw [e]; decide
     rw [e]; exact h3
    dsimp only
    rw [decide_eq_false (by omega), cF, aI (by omega) (by omega)]
    rfl
   rw [au, hst, bnd, Lib.validD_step _ hne]
   by_cases hb : (Lib.decodeL (s.drop i)).1 = 65533 ∧ (Lib.decodeL (s.drop i)).2 = 1
   ·rw [if_pos hb, if_pos hb]
    rfl
   rw [if_neg hb, if_neg hb]
   have hw := Lib.decodeL_width (s.drop i)
   have hle : (Lib.decodeL (s.drop i)).2 ≤ s.length - i := by
    rcases ql (s.drop i) hne with ⟨e, _⟩ | ⟨r, w, e, h1, _⟩
    ·rw [e] at hb; exact absurd ⟨rfl, rfl⟩ hb
    rw [e]; rw [List.length_drop] at h1; exact h1
   dsimp only
   rw [sF hs hn m _ (by omega) (by omega) q (by omega), List.drop_drop]
  have e : s.drop i = [] := List.drop_eq_nil_of_le (by omega)
  rw [au, e]
  unfold ey
  rw [decide_eq_false (by omega), cF, bnd]
  rfl
theorem oy {n:Nat} {s:Bs} (hs:s.length<1000000) (hn:5≤n) (hl:s.length<n):hP n s=some (Lib.validD s):=by
 unfold hP
 have h:=sF hs hn s.length 0 (by omega) (by omega) n hl
 rw[show((0:Nat):Int)=0 from rfl,List.drop_zero] at h
 rw[h,bnd]
 cases Lib.validD s<;>rfl
end Go.Proofs.YtkopljikappieaaGreatDoor
end
section
namespace Go.Proofs.YtkopljikappieaaGreatDoor
open Go Go.Vc Go.RowKit
theorem great_ok {n:Nat} (hn:3000<n) (v:TE0): ∃g,jY n v=some g∧(g=false→Small 30 v∧(dr v).length≤5000):=by
 obtain⟨W,w1,w2,w3,w4⟩:=tR hn n 30 v (by omega) (by omega)
 refine⟨decide ((5000:Int)<W),?_,λh=>?_⟩
 ·unfold jY mV
  have e: ((30:Nat):Int)=30:=rfl
  rw[e] at w1
  rw[w1,bnd]
 have h':=of_decide_eq_false h
 obtain⟨a,b⟩:=w4 (by omega)
 exact⟨a,by omega⟩
theorem wvs_mem: ∀ {l:List TE0} {x:TE0},x∈l→(dr x).length≤(bU l).length
 |y::r,x,h=>by
  rw[bU,List.length_append]
  rcases List.mem_cons.1 h with rfl|h
  ·omega
  have:=wvs_mem h
  omega
end Go.Proofs.YtkopljikappieaaGreatDoor
end
section
namespace Go.Proofs.YtkopljikappieaaGreatDoor
open Go Go.Vc Go.RowKit
def PlainV (v:TE0):Prop:=0≤v.ab∧v.ab≤5∧(v.an=true→v.ab=1)∧(v.ak≠0→v.ab=2)∧(v.aa≠ []→v.ab=3)∧(v.ac.length≠0→v.ab=4∨v.ab=5)∧(v.ab=5→v.af.length=v.ac.length)∧(v.ab≠5→v.af.length=0)
instance (v:TE0):Decidable (PlainV v):=by unfold PlainV;exact inferInstance
def aloneV (v:TE0):Int:=
 if PlainV v then(if v.ak< -9007199254740992∨9007199254740992<v.ak then 20 else if Lib.validD v.aa=true∧∀k∈v.af,Lib.validD k=true then(if v.af.Nodup then 0 else 41) else 10) else 2
def NumOut (v:TE0):Prop:=v.ak< -9007199254740992∨9007199254740992<v.ak
def TextsOk (v:TE0):Prop:=Lib.validD v.aa=true∧∀k∈v.af,Lib.validD k=true
theorem px {v:TE0} (h: ¬PlainV v):aloneV v=2:=if_neg h
theorem rF {v:TE0} (h:PlainV v) (hn:NumOut v):aloneV v=20:=(if_pos h).trans (if_pos hn)
theorem nw {v:TE0} (h:PlainV v) (hn: ¬NumOut v) (ht: ¬TextsOk v):aloneV v=10:=((if_pos h).trans (if_neg hn)).trans (if_neg ht)
theorem rG {v:TE0} (h:PlainV v) (hn: ¬NumOut v) (ht:TextsOk v) (hd: ¬v.af.Nodup):aloneV v=41:=(((if_pos h).trans (if_neg hn)).trans (if_pos ht)).trans (if_neg hd)
theorem alone_0 {v:TE0} (h:PlainV v) (hn: ¬NumOut v) (ht:TextsOk v) (hd:v.af.Nodup):aloneV v=0:=(((if_pos h).trans (if_neg hn)).trans (if_pos ht)).trans (if_pos hd)
theorem alone_ok {v:TE0} (h:aloneV v=0):PlainV v∧¬NumOut v∧TextsOk v∧v.af.Nodup:=by
 by_cases h1:PlainV v
 ·by_cases h2:NumOut v
  ·rw[rF h1 h2] at h;omega
  by_cases h3:TextsOk v
  ·by_cases h4:v.af.Nodup
   ·exact⟨h1,h2,h3,h4⟩
   rw[rG h1 h2 h3 h4] at h;omega
  rw[nw h1 h2 h3] at h;omega
 rw[px h1] at h;omega
def Wide (v:TE0):Prop:=v.ac.length≤3000∧v.af.length≤3000∧v.aa.length≤5000∧∀k∈v.af,k.length≤5000
theorem Small.wide: ∀ {d:Nat} {v:TE0},Small d v→Wide v
 |_+1,_,h=>⟨h.1,h.2.1,h.2.2.1,h.2.2.2.1⟩
theorem plain_ref {n:Nat} (v:TE0):kS n v=some (decide (PlainV v)):=by
 unfold kS
 by_cases h0:v.ab<0
 · rw[dT h0,cT,bnd,cT,dF (λh=>by have:=h.1;omega)]
 rw[dF h0,cF,bnd]
 by_cases h5:5<v.ab
 · rw[dT h5,cT,dF (λh=>by have:=h.2.1;omega)]
 rw[dF h5,cF]
 have key: ((bif v.an then
  (bif(!(decide (v.ab=1))) then
   (some ((true)))
  else
   bif(!(decide (v.ak=0))) then
    (bif(!(decide (v.ab=2))) then
     (some ((true)))
    else
     bif(!(decide (v.aa=[]))) then
      (some ((!(decide (v.ab=3)))))
     else
      some ((false)))
   else
    bif(!(decide (v.aa=[]))) then
     (some ((!(decide (v.ab=3)))))
    else
     some ((false)))
  else
   bif(!(decide (v.ak=0))) then
    (bif(!(decide (v.ab=2))) then
     (some ((true)))
    else
     bif(!(decide (v.aa=[]))) then
      (some ((!(decide (v.ab=3)))))
     else
      some ((false)))
   else
    bif(!(decide (v.aa=[]))) then
     (some ((!(decide (v.ab=3)))))
    else
     some ((false)):Option Bool))=some (!decide ((v.an=true→v.ab=1)∧(v.ak≠0→v.ab=2)∧(v.aa≠ []→v.ab=3))):=by
  cases v.an<;>by_cases h1:v.ab=1<;>by_cases h2:v.ab=2<;>by_cases h3:v.ab=3<;>by_cases hn:v.ak=0<;>by_cases ht:v.aa=[]<;>simp[h1,h2,h3,hn,ht]
 rw[key,bnd]
 by_cases hk: (v.an=true→v.ab=1)∧(v.ak≠0→v.ab=2)∧(v.aa≠ []→v.ab=3)
 · rw[dT hk,nT,cF]
   by_cases hl:v.ac.length=0
   · rw[dF (by omega),cF,bnd,cF]
     by_cases e5:v.ab=5
     · rw[dT e5,cT]
       refine congrArg some (decide_eq_decide.2 ?_)
       unfold PlainV
       constructor
       · intro h;exact⟨by omega,by omega,hk.1,hk.2.1,hk.2.2,λh=>absurd hl h,λ_=>by omega,λh=>absurd e5 h⟩
       intro h;have:=h.2.2.2.2.2.2.1 e5;omega
     rw[dF e5,cF]
     refine congrArg some (decide_eq_decide.2 ?_)
     unfold PlainV
     constructor
     · intro h;exact⟨by omega,by omega,hk.1,hk.2.1,hk.2.2,λh=>absurd hl h,λh=>absurd h e5,λ_=>by omega⟩
     intro h;have:=h.2.2.2.2.2.2.2 e5;omega
   rw[dT (by omega),cT]
   by_cases e4:v.ab=4
   · rw[dT e4,nT,cF,bnd,cF,dF (by omega),cF]
     refine congrArg some (decide_eq_decide.2 ?_)
     unfold PlainV
     constructor
     · intro h;exact⟨by omega,by omega,hk.1,hk.2.1,hk.2.2,λh=>.inl e4,λh=>by omega,λ_=>by omega⟩
     intro h;have:=h.2.2.2.2.2.2.2 (by omega);omega
   rw[dF e4,nF,cT]
   by_cases e5:v.ab=5
   · rw[dT e5,nT,bnd,cF,cT]
     refine congrArg some (decide_eq_decide.2 ?_)
     unfold PlainV
     constructor
     · intro h;exact⟨by omega,by omega,hk.1,hk.2.1,hk.2.2,λh=>.inr e5,λ_=>by omega,λh=>absurd e5 h⟩
     intro h;have:=h.2.2.2.2.2.2.1 e5;omega
   rw[dF e5,nF,bnd,cT,dF]
   intro h
   have:=h.2.2.2.2.2.1 hl
   omega
 rw[dF hk,nF,cT,dF]
 intro h
 exact hk ⟨h.2.2.1,h.2.2.2.1,h.2.2.2.2.1⟩
theorem mh {α:Type} {l:List α} {i:Nat} {x:α} (h:l[i]? =some x) (y:α):y∈l.take (i+1)↔y∈l.take i∨y=x:=by
 rw[List.take_add_one,h,List.mem_append]
 simp
theorem jP {α:Type} {l:List α} {i:Nat} {x:α} (h:l[i]? =some x): (l.take (i+1)).Nodup↔ (l.take i).Nodup∧x∉l.take i:=by
 rw[List.take_add_one,h]
 simp only[Option.toList_some,List.nodup_append]
 constructor
 ·rintro⟨h1,_,h3⟩
  exact⟨h1,λhx=>h3 x hx x (by simp) rfl⟩
 rintro⟨h1,h2⟩
 refine⟨h1,by simp,λa ha b hb=>?_⟩
 simp only[List.mem_singleton] at hb
 subst hb
 intro e
 exact h2 (e▸ha)
theorem oG {α:Type} {l:List α} (i:Nat) (h:l.Nodup): (l.take i).Nodup:=(List.take_sublist i l).nodup h
theorem keys_ref {n:Nat} (hn:6000<n) {v:TE0} (hw:Wide v):au (gU n v) n (0:Int)=some (bif v.af.any (λk=> !Lib.validD k) then .inl () else .inr ()):=by
 rw[←qk [] (λk=> !Lib.validD k) v.af]
 refine pL (λk=> !Lib.validD (v.af.getD k [])) v.af.length _ _ (λk hk=>?_) ?_ (by have:=hw.2.1;omega)
 ·unfold gU
  have hm:v.af.getD k []∈v.af:=by simp[List.getD,hk]
  have hl:=hw.2.2.2 _ hm
  rw[dT (by omega),cT,dQ [] hk,bnd,oy (by omega) (by omega) (by omega),bnd]
  cases Lib.validD (v.af.getD k []) with
  |true=>rw[nT,cF,aI (by omega) (by have:=hw.2.1;omega)];simp
  |false=>rw[nF,cT];simp
 unfold gU
 rw[dF (by omega),cF]
theorem twice_in {n:Nat} (hn:6000<n) {v:TE0} (hw:Wide v) {i:Nat} (hi:i<v.af.length):au (gV n v (i:Int)) n (0:Int)=some (bif(List.range i).any (λk=>decide (v.af.getD k []=v.af.getD i [])) then .inl () else .inr ()):=by
 refine pL (λk=>decide (v.af.getD k []=v.af.getD i [])) i _ _ (λk hk=>?_) ?_ (by have:=hw.2.1;omega)
 ·unfold gV
  rw[dT (by omega),cT,dQ [] (by omega),bnd,dQ [] hi,bnd]
  by_cases h:v.af.getD k []=v.af.getD i []
  ·rw[dT h,cT];simp
  rw[dF h,cF,aI (by omega) (by have:=hw.2.1;omega)];simp
 unfold gV
 rw[dF (by omega),cF]
theorem any_take {l:List Bs} {i:Nat} (hi:i<l.length): (List.range i).any (λk=>decide (l.getD k []=l.getD i []))=decide (l[i]∈l.take i):=by
 rw[Bool.eq_iff_iff,List.any_eq_true,decide_eq_true_eq,List.mem_take_iff_getElem]
 constructor
 ·rintro⟨k,hk,h⟩
  have hk':k<i:=by simpa using hk
  refine⟨k,by omega,?_⟩
  have:=of_decide_eq_true h
  simpa [List.getD,hi,(by omega:k<l.length)] using this
 rintro⟨k,hk,h⟩
 refine⟨k,List.mem_range.2 (by omega),?_⟩
 simpa [List.getD,hi,(by omega:k<l.length)] using h
theorem twice_ref {n:Nat} (hn:6000<n) {v:TE0} (hw:Wide v):au (gu n v) n (0:Int)=some (bif decide v.af.Nodup then .inr () else .inl ()):=by
 obtain⟨b,hb,hp⟩:=gD (step:=gu n v) (n:=n) (s0:=(0:Int)) (λk s=>s=(k:Int)∧(v.af.take k).Nodup)
  (λb=>b=bif decide v.af.Nodup then .inr () else .inl ()) v.af.length ⟨rfl,by simp⟩
  (λq s hq hI=>by
   obtain⟨rfl,hnd⟩:=hI
   unfold gu
   rw[dT (by omega),cT,twice_in hn hw hq,bnd,any_take hq]
   have hx:v.af[q]? =some v.af[q]:=List.getElem?_eq_getElem hq
   by_cases hm:v.af[q]∈v.af.take q
   ·rw[dT hm,cT]
    refine .inr ⟨_,rfl,?_⟩
    rw[dF,cF]
    intro h
    exact((jP hx).1 (oG (q+1) h)).2 hm
   rw[dF hm,cF]
   dsimp only
   rw[aI (by omega) (by have:=hw.2.1;omega)]
   exact .inl ⟨_,rfl,by omega,(jP hx).2 ⟨hnd,hm⟩⟩)
  (λs hI=>by
   obtain⟨rfl,hnd⟩:=hI
   rw[List.take_length] at hnd
   unfold gu
   rw[dF (by omega),cF]
   exact⟨_,rfl,by rw[dT hnd,cT]⟩) (by have:=hw.2.1;omega)
 rw[hb,hp]
def faultL:List TE0→Int
 |[]=>0
 |x::r=>if aloneV x=0 then faultL r else aloneV x
theorem oZ: ∀l m:List TE0,faultL (l++m)=if faultL l=0 then faultL m else faultL l
 |[],m=>by simp[faultL]
 |x::l,m=>by
  rw[List.cons_append,faultL,faultL,oZ l m]
  by_cases h:aloneV x=0
  ·rw[if_pos h,if_pos h]
  rw[if_neg h,if_neg h,if_neg h]
theorem qp (v:TE0):faultL (dr v)=if aloneV v=0 then faultL (bU v.ac) else aloneV v:=by rw[jn,faultL]
theorem faultL_take {l:List TE0} {i:Nat} {x:TE0} (h:l[i]? =some x):faultL (bU (l.take (i+1)))=if faultL (bU (l.take i))=0 then faultL (dr x) else faultL (bU (l.take i)):=by rw[od h,oZ]
theorem tT {n : Nat} (hn : 6000 < n) : ∀ (k d : Nat) (v : TE0), d ≤ k → Small d v → gd n k v = some (faultL (dr v))
 | _, 0, v, _, h => h.elim
 | 0, d + 1, v, h, _ => absurd h (by omega)
 | k + 1, d + 1, v, hk, hs => by
  have hw := hs.wide
  obtain ⟨h1, h2, h3, h4, h5⟩ := hs
  show jJ n (gd n k) v = _
  unfold jJ
  rw [qp, plain_ref, bnd]
  by_cases hp : PlainV v
  ·rw [decide_eq_true hp, Bool.not_true, cF]
   by_cases hnum : NumOut v
   ·rw [rF hp hnum, if_neg (by decide)]
    rcases hnum with hm | hm
    ·rw [decide_eq_true hm, cT, bnd, cT]
    by_cases hm' : v.ak < -9007199254740992
    ·omega
    rw [decide_eq_false hm', cF, bnd, decide_eq_true hm, cT]
   have hnum' : ¬ (v.ak < -9007199254740992 ∨ 9007199254740992 < v.ak) := hnum
   rw [decide_eq_false (by omega), cF, bnd, decide_eq_false (by omega), cF, oy (by omega) (by omega) (by omega), bnd, keys_ref hn hw, twice_ref hn hw]
   cases hv : Lib.validD v.aa with
   | false =>
    rw [Bool.not_false, cT, nw hp hnum (fun h => by rw [h.1] at hv; cases hv), if_neg (by decide)]
   | true =>
    rw [Bool.not_true, cF, bnd]
    by_cases ha : ∀ k ∈ v.af, Lib.validD k = true
    ·have : v.af.any (fun k => !Lib.validD k) = false := by
      rw [List.any_eq_false]
      intro x hx
      simp [ha x hx]
     rw [this, cF]
     dsimp only
     rw [bnd]
     by_cases hd : v.af.Nodup
     ·rw [decide_eq_true hd, cT, alone_0 hp hnum ⟨hv, ha⟩ hd, if_pos rfl]
      dsimp only
      obtain ⟨b, hb, hpost⟩ := gD (step := gW n (gd n k) v) (n := n) (s0 := (0 : Int)) (fun q s => s = (q : Int) ∧ faultL (bU (v.ac.take q)) = 0)
       (fun b => match b with | .inl e => e = faultL (bU v.ac) | .inr () => faultL (bU v.ac) = 0) v.ac.length ⟨rfl, by simp [bU, faultL]⟩
       (fun q s hq hI => by
        obtain ⟨rfl, hf⟩ := hI
        have hx : v.ac[q]? = some v.ac[q] := List.getElem?_eq_getElem hq
        have hg : aB v.ac (q : Int) = some v.ac[q] := by simp [aB]
        have hft := faultL_take hx
        rw [if_pos hf] at hft
        unfold gW
        rw [decide_eq_true (by omega), cT, hg, bnd, tT hn k d _ (by omega) (h5 _ (List.getElem_mem hq)), bnd]
        by_cases he : faultL (dr v.ac[q]) = 0
        ·rw [decide_eq_true he, Bool.not_true, cF, aI (by omega) (by omega)]
         exact .inl ⟨_, rfl, by omega, by rw [hft]; exact he⟩
        rw [decide_eq_false he, Bool.not_false, cT]
        refine .inr ⟨_, rfl, ?_⟩
        have hsplit : bU v.ac = bU (v.ac.take (q + 1)) ++ bU (v.ac.drop (q + 1)) := by rw [← nk, List.take_append_drop]
        dsimp only
        rw [hsplit, oZ, hft, if_neg he])
       (fun s hI => by
        obtain ⟨rfl, hf⟩ := hI
        rw [List.take_length] at hf
        unfold gW
        rw [decide_eq_false (by omega), cF]
        exact ⟨_, rfl, hf⟩) (by omega)
      rw [hb, bnd]
      cases b with
      | inl e => dsimp only at hpost ⊢; rw [hpost]
      | inr u => dsimp only at hpost ⊢; rw [hpost]
     rw [decide_eq_false hd, cF, rG hp hnum ⟨hv, ha⟩ hd, if_neg (by decide)]
    rw [nw hp hnum (fun h => ha h.2), if_neg (by decide)]
    have : v.af.any (fun k => !Lib.validD k) = true := by
     rw [List.any_eq_true]
     apply Classical.byContradiction
     intro h
     apply ha
     intro k hk
     cases hvk : Lib.validD k with
     | true => rfl
     | false => exact absurd ⟨k, hk, by simp [hvk]⟩ h
    rw [this, cT]
  rw [decide_eq_false hp, Bool.not_false, cT, px hp, if_neg (by decide)]
end Go.Proofs.YtkopljikappieaaGreatDoor
end
section
namespace Go.Proofs.YtkopljikappieaaGreatDoor
open Go Go.Vc Go.RowKit
theorem qI {n:Nat} {s:Bs} (h:s.length<1000000):gg n s=some (Lib.validD s):=by
 unfold gg jG
 rw[aP (by omega),bnd]
theorem contains_run {n:Nat} (hn:6000<n) {v:TE0} (hw:Wide v):bR n v.af=some (v.af.any (λk=> !Lib.validD k)):=by
 unfold bR di
 have hl:=hw.2.1
 have hd: ∀k:Nat,k<v.af.length→bu n v.af (k:Int)=some (if !Lib.validD (v.af.getD k []) then .br (.inl (k:Int)) else .nx ((k:Int)+1)):=λk hk=>by
  unfold bu lp
  have hm:v.af.getD k []∈v.af:=by simp[List.getD,hk]
  have:=hw.2.2.2 _ hm
  rw[dT (by omega),cT,dQ [] hk,bnd,qI (by omega),bnd,bnd]
  cases Lib.validD (v.af.getD k []) with
  |true=>rw[nT,cF,aI (by omega) (by omega)];rfl
  |false=>rw[nF,cT];rfl
 obtain⟨b,hb,hp⟩:=gD (step:=bu n v.af) (n:=n) (s0:=(0:Int)) (λq s=>s=(q:Int)∧∀k∈v.af.take q,Lib.validD k=true)
  (λb=>match b with|.inl i=>0≤i∧v.af.any (λk=> !Lib.validD k)=true|.inr ()=>v.af.any (λk=> !Lib.validD k)=false) v.af.length ⟨rfl,by simp⟩
  (λq s hq hI=>by
   obtain⟨rfl,hf⟩:=hI
   have hx:v.af[q]? =some v.af[q]:=List.getElem?_eq_getElem hq
   rw[hd q hq]
   have hg:v.af.getD q []=v.af[q]:=by simp[List.getD,hq]
   rw[hg]
   cases hv:Lib.validD v.af[q] with
   |true=>
    refine .inl ⟨_,rfl,by omega,λk hk=>?_⟩
    rcases(mh hx k).1 hk with h|h
    ·exact hf k h
    rw[h];exact hv
   |false=>
    refine .inr ⟨_,rfl,by omega,?_⟩
    rw[List.any_eq_true]
    exact⟨_,List.getElem_mem hq,by simp[hv]⟩)
  (λs hI=>by
   obtain⟨rfl,hf⟩:=hI
   rw[List.take_length] at hf
   unfold bu
   rw[dF (by omega),cF]
   refine⟨_,rfl,?_⟩
   dsimp only
   rw[List.any_eq_false]
   intro x hx
   simp[hf x hx]) (by omega)
 rw[hb,bnd]
 cases b with
 |inl i=>dsimp only at hp ⊢;rw[bnd,hp.2,dT hp.1]
 |inr u=>dsimp only at hp ⊢;rw[bnd,hp];rfl
theorem twice_run {n:Nat} (hn:6000<n) {v:TE0} (hw:Wide v): ∃b,au (gk n v) n ((0:Int),([]:List (Bs×Bool)))=some b∧(match b with|.inl _=>¬v.af.Nodup|.inr _=>v.af.Nodup):=by
 have hl:=hw.2.1
 refine gD (step:=gk n v) (n:=n) (λq s=>s.1=(q:Int)∧(∀x,(ew s.2 x).getD false=decide (x∈v.af.take q))∧(v.af.take q).Nodup)
  (λb=>match b with|.inl _=>¬v.af.Nodup|.inr _=>v.af.Nodup) v.af.length ⟨rfl,λx=>by simp[ew],by simp⟩
  (λq s hq hI=>?_) (λs hI=>?_) (by omega)
 ·obtain⟨i,m⟩:=s
  obtain⟨h1,h2,h3⟩:=hI
  have h1':i=(q:Int):=h1
  subst h1'
  dsimp only at h2
  have hx:v.af[q]? =some v.af[q]:=List.getElem?_eq_getElem hq
  have hg:aB v.af (q:Int)=some v.af[q]:=by simp[aB]
  unfold gk
  dsimp only
  rw[dT (by omega),cT,hg,bnd,h2]
  by_cases hm:v.af[q]∈v.af.take q
  ·rw[dT hm,cT]
   exact .inr ⟨_,rfl,λh=>((jP hx).1 (oG (q+1) h)).2 hm⟩
  rw[dF hm,cF,aI (by omega) (by omega)]
  refine .inl ⟨_,rfl,by dsimp only;omega,λx=>?_,(jP hx).2 ⟨h3,hm⟩⟩
  dsimp only
  rw[mget_mput]
  by_cases hxe:v.af[q]=x
  ·rw[if_pos hxe,dT ((mh hx x).2 (.inr hxe.symm))];rfl
  rw[if_neg hxe,h2]
  refine decide_eq_decide.2 ?_
  rw[mh hx]
  exact⟨.inl,λh=>h.elim id λh=>absurd h.symm hxe⟩
 obtain⟨i,m⟩:=s
 obtain⟨h1,h2,h3⟩:=hI
 have h1':i=(v.af.length:Int):=h1
 subst h1'
 rw[List.take_length] at h3
 unfold gk
 dsimp only
 rw[dF (by omega),cF]
 exact⟨_,rfl,h3⟩
theorem alone_run {n : Nat} (hn : 6000 < n) {v : TE0} (hw : Wide v) : lN n v = some (aloneV v) := by
 obtain ⟨hl, hk, ht, hkk⟩ := id hw
 unfold lN
 -- the rest: either 2 at once, or what is left
 have tail : ∀ y : Bool × Int × List UInt8 × List TE0 × List (List UInt8), y.2.2.2.1.length ≤ 3000 → y.2.2.2.2.length ≤ 3000 → (PlainV v ↔ (y.1 = false ∧ y.2.1 = 0 ∧ y.2.2.1 = [] ∧ y.2.2.2.1.length = 0 ∧ y.2.2.2.2.length = 0)) →
   (((((bif y.1 then
    (some ((true)))
   else
    bif (!(decide (y.2.1 = 0))) then
     (some ((true)))
    else
     bif (!(decide (y.2.2.1 = []))) then
      (some ((true)))
     else
      aL (inR .i64 (((y.2.2.2.1.length : Nat) : Int) + ((y.2.2.2.2.length : Nat) : Int))) <|
      some ((decide ((0 : Int) < (((y.2.2.2.1.length : Nat) : Int) + ((y.2.2.2.2.length : Nat) : Int))))) : Option Bool)).bind fun y_2 =>
  bif y_2 then
   (((some ((2 : Int)) : Option Int)).map Lp.br)
  else
   ((bif (decide (v.ak < (-9007199254740992))) then
     (some ((true)))
    else
     some ((decide ((9007199254740992 : Int) < v.ak))) : Option Bool)).bind fun y_3 =>
   bif y_3 then
    (((some ((20 : Int)) : Option Int)).map Lp.br)
   else
    (gg n v.aa).bind fun x_1 =>
    bif !x_1 then
     (((some ((10 : Int)) : Option Int)).map Lp.br)
    else
     (bR n v.af).bind fun x_2 =>
     bif x_2 then
      (((some ((10 : Int)) : Option Int)).map Lp.br)
     else
      some (.nx ()) : Option (Lp Unit Int))).bind fun j => joinF j fun _ =>
 (au (gk n v) n ((0 : Int), ([] : List ((List UInt8) × Bool)))).bind fun b_2 =>
 (match b_2 with 
 | .inl y_5 => some ((41 : Int)) 
 | .inr y_6 => some ((0 : Int)))) = some (aloneV v) := by
  intro y hy1 hy2 hy
  have e : (bif y.1 then
    (some ((true)))
   else
    bif (!(decide (y.2.1 = 0))) then
     (some ((true)))
    else
     bif (!(decide (y.2.2.1 = []))) then
      (some ((true)))
     else
      aL (inR .i64 (((y.2.2.2.1.length : Nat) : Int) + ((y.2.2.2.2.length : Nat) : Int))) <|
      some ((decide ((0 : Int) < (((y.2.2.2.1.length : Nat) : Int) + ((y.2.2.2.2.length : Nat) : Int))))) : Option Bool) = some (!decide (PlainV v)) := by
   rw [aI (by omega) (by omega)]
   by_cases hp : PlainV v
   ·obtain ⟨a1, a2, a3, a4, a5⟩ := hy.1 hp
    rw [a1, cF, decide_eq_true a2, Bool.not_true, cF, decide_eq_true a3, Bool.not_true, cF, decide_eq_false (by omega), decide_eq_true hp]; rfl
   rw [decide_eq_false hp, Bool.not_false]
   cases hb : y.1 with
   | true => rw [cT]
   | false =>
    rw [cF]
    by_cases h2 : y.2.1 = 0
    ·rw [decide_eq_true h2, Bool.not_true, cF]
     by_cases h3 : y.2.2.1 = []
     ·rw [decide_eq_true h3, Bool.not_true, cF, decide_eq_true]
      by_cases h4 : y.2.2.2.1.length = 0
      ·by_cases h5 : y.2.2.2.2.length = 0
       ·exact absurd (hy.2 ⟨hb, h2, h3, h4, h5⟩) hp
       omega
      omega
     rw [decide_eq_false h3, Bool.not_false, cT]
    rw [decide_eq_false h2, Bool.not_false, cT]
  rw [e, bnd]
  by_cases hp : PlainV v
  ·rw [decide_eq_true hp, Bool.not_true, cF]
   by_cases hnum : NumOut v
   ·rw [rF hp hnum]
    rcases hnum with hm | hm
    ·rw [decide_eq_true hm, cT, bnd, cT, mpS, bnd, jB]
    by_cases hm' : v.ak < -9007199254740992
    ·omega
    rw [decide_eq_false hm', cF, bnd, decide_eq_true hm, cT, mpS, bnd, jB]
   have hnum' : ¬ (v.ak < -9007199254740992 ∨ 9007199254740992 < v.ak) := hnum
   rw [decide_eq_false (by omega), cF, bnd, decide_eq_false (by omega), cF, qI (by omega), bnd, contains_run hn hw]
   cases hv : Lib.validD v.aa with
   | false => rw [Bool.not_false, cT, mpS, bnd, jB, nw hp hnum (fun h => by rw [h.1] at hv; cases hv)]
   | true =>
    rw [Bool.not_true, cF, bnd]
    by_cases ha : ∀ k ∈ v.af, Lib.validD k = true
    ·have : v.af.any (fun k => !Lib.validD k) = false := by
      rw [List.any_eq_false]
      intro x hx
      simp [ha x hx]
     rw [this, cF, bnd, jN]
     obtain ⟨b, hb, hpost⟩ := twice_run hn hw
     rw [hb, bnd]
     cases b with
     | inl m => dsimp only at hpost ⊢; rw [rG hp hnum ⟨hv, ha⟩ hpost]
     | inr m => dsimp only at hpost ⊢; rw [alone_0 hp hnum ⟨hv, ha⟩ hpost]
    have : v.af.any (fun k => !Lib.validD k) = true := by
     rw [List.any_eq_true]
     apply Classical.byContradiction
     intro h
     apply ha
     intro k hk
     cases hvk : Lib.validD k with
     | true => rfl
     | false => exact absurd ⟨k, hk, by simp [hvk]⟩ h
    rw [this, cT, mpS, bnd, jB, nw hp hnum (fun h => ha h.2)]
  rw [decide_eq_false hp, Bool.not_false, cT, mpS, bnd, jB, px hp]
 have len0 : ∀ {α : Type} {l : List α}, l = [] ↔ l.length = 0 := fun {α l} => by simp
 by_cases h0 : v.ab = 0
 ·rw [decide_eq_true h0, cT, bnd, jN]
  refine tail _ hl hk ?_
  unfold PlainV
  dsimp only
  rw [h0]
  constructor
  ·rintro ⟨_, _, a, b, c, d, _, e⟩
   refine ⟨?_, ?_, ?_, ?_, e (by omega)⟩
   ·cases hb : v.an with
    | false => rfl
    | true => have := a hb; omega
   ·apply Classical.byContradiction; intro h; have := b h; omega
   ·apply Classical.byContradiction; intro h; have := c h; omega
   apply Classical.byContradiction; intro h; have := d h; omega
  rintro ⟨a, b, c, d, e⟩
  exact ⟨by omega, by omega, fun h => (by rw [a] at h; cases h), fun h => absurd b h, fun h => absurd c h, fun h => absurd d h, fun h => by omega, fun _ => e⟩
 rw [decide_eq_false h0, cF]
 by_cases h1 : v.ab = 1
 ·rw [decide_eq_true h1, cT, bnd, jN]
  refine tail _ hl hk ?_
  unfold PlainV
  dsimp only
  rw [h1]
  constructor
  ·rintro ⟨_, _, a, b, c, d, _, e⟩
   refine ⟨rfl, ?_, ?_, ?_, e (by omega)⟩
   ·apply Classical.byContradiction; intro h; have := b h; omega
   ·apply Classical.byContradiction; intro h; have := c h; omega
   apply Classical.byContradiction; intro h; have := d h; omega
  rintro ⟨_, b, c, d, e⟩
  exact ⟨by omega, by omega, fun _ => rfl, fun h => absurd b h, fun h => absurd c h, fun h => absurd d h, fun h => by omega, fun _ => e⟩
 rw [decide_eq_false h1, cF]
 by_cases h2 : v.ab = 2
 ·rw [decide_eq_true h2, cT, bnd, jN]
  refine tail _ hl hk ?_
  unfold PlainV
  dsimp only
  rw [h2]
  constructor
  ·rintro ⟨_, _, a, b, c, d, _, e⟩
   refine ⟨?_, rfl, ?_, ?_, e (by omega)⟩
   ·cases hb : v.an with
    | false => rfl
    | true => have := a hb; omega
   ·apply Classical.byContradiction; intro h; have := c h; omega
   apply Classical.byContradiction; intro h; have := d h; omega
  rintro ⟨a, _, c, d, e⟩
  exact ⟨by omega, by omega, fun h => (by rw [a] at h; cases h), fun _ => rfl, fun h => absurd c h, fun h => absurd d h, fun h => by omega, fun _ => e⟩
 rw [decide_eq_false h2, cF]
 by_cases h3 : v.ab = 3
 ·rw [decide_eq_true h3, cT, bnd, jN]
  refine tail _ hl hk ?_
  unfold PlainV
  dsimp only
  rw [h3]
  constructor
  ·rintro ⟨_, _, a, b, c, d, _, e⟩
   refine ⟨?_, ?_, rfl, ?_, e (by omega)⟩
   ·cases hb : v.an with
    | false => rfl
    | true => have := a hb; omega
   ·apply Classical.byContradiction; intro h; have := b h; omega
   apply Classical.byContradiction; intro h; have := d h; omega
  rintro ⟨a, b, _, d, e⟩
  exact ⟨by omega, by omega, fun h => (by rw [a] at h; cases h), fun h => absurd b h, fun _ => rfl, fun h => absurd d h, fun h => by omega, fun _ => e⟩
 rw [decide_eq_false h3, cF]
 by_cases h4 : v.ab = 4
 ·rw [decide_eq_true h4, cT, bnd, jN]
  refine tail _ (by simp) hk ?_
  unfold PlainV
  dsimp only
  rw [h4]
  constructor
  ·rintro ⟨_, _, a, b, c, d, _, e⟩
   refine ⟨?_, ?_, ?_, rfl, e (by omega)⟩
   ·cases hb : v.an with
    | false => rfl
    | true => have := a hb; omega
   ·apply Classical.byContradiction; intro h; have := b h; omega
   apply Classical.byContradiction; intro h; have := c h; omega
  rintro ⟨a, b, c, _, e⟩
  exact ⟨by omega, by omega, fun h => (by rw [a] at h; cases h), fun h => absurd b h, fun h => absurd c h, fun _ => .inl rfl, fun h => by omega, fun _ => e⟩
 rw [decide_eq_false h4, cF]
 by_cases h5 : v.ab = 5
 ·rw [decide_eq_true h5, cT]
  by_cases hkl : v.af.length = v.ac.length
  ·rw [decide_eq_true (by omega), Bool.not_true, cF, bnd, jN]
   refine tail _ (by simp) (by simp) ?_
   unfold PlainV
   dsimp only
   rw [h5]
   constructor
   ·rintro ⟨_, _, a, b, c, d, _, e⟩
    refine ⟨?_, ?_, ?_, rfl, rfl⟩
    ·cases hb : v.an with
     | false => rfl
     | true => have := a hb; omega
    ·apply Classical.byContradiction; intro h; have := b h; omega
    apply Classical.byContradiction; intro h; have := c h; omega
   rintro ⟨a, b, c, _, _⟩
   exact ⟨by omega, by omega, fun h => (by rw [a] at h; cases h), fun h => absurd b h, fun h => absurd c h, fun _ => .inr rfl, fun _ => hkl, fun h => absurd rfl h⟩
  rw [decide_eq_false (by omega), Bool.not_false, cT, mpS, bnd, jB, px (fun h => hkl (h.2.2.2.2.2.2.1 h5))]
 rw [decide_eq_false h5, cF, mpS, bnd, jB, px]
 intro h
 have a := h.1
 have b := h.2.1
 omega
end Go.Proofs.YtkopljikappieaaGreatDoor
end
section
namespace Go.Proofs.YtkopljikappieaaGreatDoor
open Go Go.Vc Go.RowKit
mutual
def depthV:TE0→Nat
 |⟨_,_,_,_,l,_⟩=>depthVs l+1
def depthVs:List TE0→Nat
 |[]=>0
 |x::r=>max (depthV x) (depthVs r)
end
theorem oo (v:TE0):depthV v=depthVs v.ac+1:=by cases v;rw[depthV]
theorem qM: ∀l m:List TE0,depthVs (l++m)=max (depthVs l) (depthVs m)
 |[],m=>by simp[depthVs]
 |x::l,m=>by rw[List.cons_append,depthVs,depthVs,qM l m];omega
theorem pC {l:List TE0} {i:Nat} {x:TE0} (h:l[i]? =some x):depthVs (l.take (i+1))=max (depthVs (l.take i)) (depthV x):=by
 rw[List.take_add_one,h,qM]
 simp[depthVs]
theorem qN: ∀ {l:List TE0} {x:TE0},x∈l→depthV x≤depthVs l
 |y::r,x,h=>by
  rw[depthVs]
  rcases List.mem_cons.1 h with rfl|h
  ·omega
  have:=qN h
  omega
theorem depthV_pos (v:TE0):1≤depthV v:=by rw[oo];omega
theorem tn {n:Nat} (hn:6000<n): ∀ (k d:Nat) (v:TE0) (left:Nat),d≤k→Small d v→left≤1000→gK n k v (left:Int)=some ((min (depthV v) (left+1):Nat):Int)
 |_,0,v,_,_,h,_=>h.elim
 |0,d+1,v,_,h,_,_=>absurd h (by omega)
 |k+1,d+1,v,left,hk,hs,hle=>by
  obtain⟨h1,h2,h3,h4,h5⟩:=hs
  show kv n (gK n k) v left=_
  unfold kv
  have:=gr (step:=iE n (gK n k) v (left:Int)) (n:=n) (λq=>(((min (depthVs (v.ac.take q)) left:Nat):Int),(q:Int))) v.ac.length ((min (depthVs v.ac) left:Nat):Int) (λq hq=>by
   have hx:v.ac[q]? =some v.ac[q]:=List.getElem?_eq_getElem hq
   have hg:aB v.ac (q:Int)=some v.ac[q]:=by simp[aB]
   unfold iE
   dsimp only
   rw[dT (by omega),cT]
   by_cases hl:left=0
   ·subst hl
    rw[dF (by omega),cF,aI (by omega) (by omega)]
    simp
   ·have hl1: ((left:Nat):Int)-1=((left-1:Nat):Int):=by omega
    rw[dT (by omega),cT,hg,bnd,aI (by omega) (by omega),hl1,tn hn k d _ (left-1) (by omega) (h5 _ (List.getElem_mem hq)) (by omega),bnd,aI (by omega) (by omega),pC hx]
    congr 3
    omega) (by
   unfold iE
   dsimp only
   rw[dF (by omega),cF,List.take_length]) (by omega)
  have e0: ((0:Nat):Int)=0:=rfl
  simp only[List.take_zero,depthVs,Nat.zero_min,e0] at this
  rw[this,bnd,aI (by omega) (by omega),oo]
  congr 1
  omega
theorem rL {n:Nat} (hn:6000<n): ∀ (k d:Nat) (v:TE0) (left:Nat),d≤k→Small d v→left≤1000→ez n k v (left:Int)=some (decide (left<depthV v))
 |_,0,v,_,_,h,_=>h.elim
 |0,d+1,v,_,h,_,_=>absurd h (by omega)
 |k+1,d+1,v,left,hk,hs,hle=>by
  obtain⟨h1,h2,h3,h4,h5⟩:=hs
  show iV n (ez n k) v left=_
  unfold iV
  by_cases hl:left=0
  ·subst hl
   have:=depthV_pos v
   rw[dT (by omega),cT,dT (by omega)]
  rw[dF (by omega),cF]
  obtain⟨b,hb,hp⟩:=gD (step:=gy n (ez n k) v (left:Int)) (n:=n) (s0:=(0:Int)) (λq s=>s=(q:Int)∧depthVs (v.ac.take q)<left) (λb=>match b with|.inl _=>left≤depthVs v.ac|.inr _=>depthVs v.ac<left) v.ac.length ⟨rfl,by simp[depthVs];omega⟩ (λq s hq hI=>by
   obtain⟨rfl,hI⟩:=hI
   have hx:v.ac[q]? =some v.ac[q]:=List.getElem?_eq_getElem hq
   have hg:aB v.ac (q:Int)=some v.ac[q]:=by simp[aB]
   have hm:v.ac[q]∈v.ac:=List.getElem_mem hq
   have hdm:=qN hm
   unfold gy
   have hl1: ((left:Nat):Int)-1=((left-1:Nat):Int):=by omega
   rw[dT (by omega),cT,hg,bnd,aI (by omega) (by omega),hl1,rL hn k d _ (left-1) (by omega) (h5 _ hm) (by omega),bnd]
   by_cases hd:left-1<depthV v.ac[q]
   ·rw[dT hd,cT]
    refine .inr ⟨_,rfl,?_⟩
    dsimp only
    omega
   ·rw[dF hd,cF,aI (by omega) (by omega)]
    refine .inl ⟨_,rfl,by omega,?_⟩
    rw[pC hx]
    omega) (λs hI=>by
   obtain⟨rfl,hI⟩:=hI
   rw[List.take_length] at hI
   unfold gy
   rw[dF (by omega),cF]
   exact⟨_,rfl,hI⟩) (by omega)
  rw[hb,bnd]
  have:=oo v
  cases b with
  |inl u=>dsimp only at hp ⊢;rw[dT (by omega)]
  |inr u=>dsimp only at hp ⊢;rw[dF (by omega)]
theorem tl {n:Nat} (hn:6000<n): ∀ (k d:Nat) (v:TE0),d≤k→Small d v→(dr v).length≤5900→gc n k v=some ((dr v).length:Int)
 |_,0,v,_,h,_=>h.elim
 |0,d+1,v,h,_,_=>absurd h (by omega)
 |k+1,d+1,v,hk,hs,hlen=>by
  obtain⟨h1,h2,h3,h4,h5⟩:=hs
  show jI n (gc n k) v=_
  unfold jI
  have hwl: (dr v).length=(bU v.ac).length+1:=by rw[jn,List.length_cons]
  have:=gr (step:=gT n (gc n k) v) (n:=n) (λq=>(((bU (v.ac.take q)).length:Int)+1,(q:Int))) v.ac.length ((bU v.ac).length+1:Int) (λq hq=>by
   have hx:v.ac[q]? =some v.ac[q]:=List.getElem?_eq_getElem hq
   have hg:aB v.ac (q:Int)=some v.ac[q]:=by simp[aB]
   have hm:v.ac[q]∈v.ac:=List.getElem_mem hq
   have hw1:=nl hm
   have hw2: (bU (v.ac.take q)).length≤(bU v.ac).length:=by
    have:=congrArg List.length (nk (v.ac.take q) (v.ac.drop q))
    rw[List.take_append_drop,List.length_append] at this
    omega
   unfold gT
   dsimp only
   rw[dT (by omega),cT,hg,bnd,tl hn k d _ (by omega) (h5 _ hm) (by omega),bnd,aI (by omega) (by omega),aI (by omega) (by omega),od hx,List.length_append]
   congr 3
   push_cast
   omega) (by
   unfold gT
   dsimp only
   rw[dF (by omega),cF,List.take_length]) (by omega)
  have e0: ((0:Nat):Int)=0:=rfl
  have e1: (0:Int)+1=1:=rfl
  simp only[List.take_zero,bU,List.length_nil,e0,e1] at this
  rw[this,bnd,hwl]
  rfl
structure Fine (v:TE0):Prop where
 small:Small 60 v
 few: (dr v).length≤5900
theorem Small.le: ∀ {d e:Nat} {v:TE0},d≤e→Small d v→Small e v
 |0,_,_,_,h=>h.elim
 |d+1,0,_,hde,_=>absurd hde (by omega)
 |d+1,e+1,_,hde,h=>⟨h.1,h.2.1,h.2.2.1,h.2.2.2.1,λx hx=>Small.le (by omega) (h.2.2.2.2 x hx)⟩
theorem Fine.part {v x:TE0} (h:Fine v) (hx:x∈v.ac):Fine x:=by
 refine⟨Small.le (d:=59) (by omega) (h.small.2.2.2.2 x hx),?_⟩
 have:=nl hx
 have:=h.few
 rw[jn,List.length_cons] at this
 omega
theorem sC: ∀ {d:Nat} {v x:TE0},Small d v→x∈dr v→Small d x
 |d+1,v,x,h,hx=>by
  rw[jn] at hx
  rcases List.mem_cons.1 hx with rfl|hx
  ·exact h
  have key: ∀l:List TE0,(∀y∈l,Small d y)→x∈bU l→Small d x:=by
   intro l
   induction l with
   |nil=>intro _ hx;simp[bU] at hx
   |cons y r ih=>
    intro hl hx
    rw[bU,List.mem_append] at hx
    rcases hx with hx|hx
    ·exact sC (hl y List.mem_cons_self) hx
    exact ih (λz hz=>hl z (List.mem_cons_of_mem _ hz)) hx
  exact Small.le (by omega) (key _ h.2.2.2.2 hx)
def checkV (v:TE0):Int:=if 24<depthV v then 30 else if faultL (dr v)=0 then(if 4096<(dr v).length then 3 else 0) else faultL (dr v)
theorem tj {n:Nat} (hn:6000<n) {v:TE0} (h:Fine v):jX n v=some (checkV v):=by
 unfold jX mT nQ nP checkV
 have e: ((24:Nat):Int)=24:=rfl
 have:=rL hn n 60 v 24 (by omega) h.small (by omega)
 rw[e] at this
 rw[this,bnd]
 by_cases hd:24<depthV v
 ·rw[dT hd,cT,if_pos hd]
 rw[dF hd,cF,if_neg hd,tT hn n 60 v (by omega) h.small,bnd]
 by_cases hf:faultL (dr v)=0
 ·rw[if_pos hf,dT hf,nT,cF,tl hn n 60 v (by omega) h.small h.few,bnd]
  by_cases hc:4096<(dr v).length
  ·rw[if_pos hc,dT (by omega),cT]
  rw[if_neg hc,dF (by omega),cF]
 rw[if_neg hf,dF hf,nF,cT]
theorem rK {n:Nat} (hn:6000<n): ∀ (l:List TE0) (s:Nat),(∀x∈l,Wide x)→s+l.length≤6000→∃j,mu (iD n) l (s:Int)=some j∧(match j with|.nx t=>faultL l=0∧t=((s+l.length:Nat):Int)|.br b=>faultL l≠0∧b.2=faultL l)
 |[],s,_,_=>⟨_,rfl,rfl,by simp⟩
 |x::r,s,hw,hl=>by
  rw[List.length_cons] at hl
  unfold mu faultL
  have e:iD n (s:Int) x=if aloneV x=0 then some (.nx ((s+1:Nat):Int)) else some (.br ((s:Int),aloneV x)):=by
   unfold iD
   have ex: (⟨x.ab,(x.an),x.ak,x.aa,x.ac,x.af⟩:TE0)=x:=by cases x;rfl
   try rw[ex]
   rw[alone_run hn (hw x List.mem_cons_self),bnd]
   by_cases h:aloneV x=0
   ·rw[if_pos h,dT h,nT,cF,aI (by omega) (by omega)]
    congr 2
   rw[if_neg h,dF h,nF,cT]
  rw[e]
  by_cases h:aloneV x=0
  ·rw[if_pos h,if_pos h,bnd]
   obtain⟨j,hj,hp⟩:=rK hn r (s+1) (λy hy=>hw y (List.mem_cons_of_mem _ hy)) (by omega)
   refine⟨j,hj,?_⟩
   cases j with
   |nx t=>dsimp only at hp ⊢;exact⟨hp.1,by rw[hp.2,List.length_cons];omega⟩
   |br b=>exact hp
  rw[if_neg h,if_neg h,bnd]
  exact⟨_,rfl,h,rfl⟩
theorem check_run {n:Nat} (hn:6000<n) {v:TE0} (h:Fine v):kI n v=some (checkV v):=by
 unfold kI pk checkV
 have e: ((24:Nat):Int)=24:=rfl
 have hd0:=tn hn n 60 v 24 (by omega) h.small (by omega)
 rw[e] at hd0
 rw[hd0,bnd]
 by_cases hd:24<depthV v
 ·rw[dT (by omega),cT,if_pos hd]
 rw[dF (by omega),cF,if_neg hd,aP (by have:=h.few;omega)]
 obtain⟨j,hj,hp⟩:=rK hn (dr v) 0 (λx hx=>(sC h.small hx).wide) (by have:=h.few;omega)
 have e0: ((0:Nat):Int)=0:=rfl
 rw[e0] at hj
 rw[hj,bnd]
 cases j with
 |nx t=>
  dsimp only at hp ⊢
  rw[if_pos hp.1]
  by_cases hc:4096<(dr v).length
  ·rw[if_pos hc,dT (by omega),cT]
  rw[if_neg hc,dF (by omega),cF]
 |br b=>
  dsimp only at hp ⊢
  rw[if_neg hp.1,hp.2]
end Go.Proofs.YtkopljikappieaaGreatDoor
end
section
namespace Go.Proofs.YtkopljikappieaaGreatDoor
open Go Go.Vc Go.RowKit
def OkV (v:TE0):Prop:=faultL (dr v)=0
theorem lR: ∀ {l:List TE0},faultL l=0↔ ∀x∈l,aloneV x=0
 |[]=>by simp[faultL]
 |x::r=>by
  rw[faultL]
  by_cases h:aloneV x=0
  ·rw[if_pos h,lR (l:=r)]
   simp[h]
  rw[if_neg h]
  constructor
  ·intro e;exact absurd e h
  intro e;exact absurd (e x List.mem_cons_self) h
theorem pc {x:TE0}: ∀ {l:List TE0},x∈bU l↔ ∃y∈l,x∈dr y
 |[]=>by simp[bU]
 |y::r=>by
  rw[bU,List.mem_append,pc (l:=r)]
  simp
theorem OkV_iff {v:TE0}:OkV v↔aloneV v=0∧∀x∈v.ac,OkV x:=by
 unfold OkV
 rw[lR,jn]
 constructor
 ·intro h
  refine⟨h v List.mem_cons_self,λx hx=>?_⟩
  rw[lR]
  intro y hy
  exact h y (List.mem_cons_of_mem _ (pc.2 ⟨x,hx,hy⟩))
 rintro⟨h1,h2⟩ x hx
 rcases List.mem_cons.1 hx with rfl|hx
 ·exact h1
 obtain⟨y,hy,hxy⟩:=pc.1 hx
 exact lR.1 (h2 y hy) x hxy
theorem checkV_ok {v:TE0} (h:checkV v=0):OkV v∧depthV v≤24∧(dr v).length≤4096:=by
 unfold checkV at h
 by_cases h1:24<depthV v
 ·rw[if_pos h1] at h;omega
 rw[if_neg h1] at h
 by_cases h2:faultL (dr v)=0
 ·rw[if_pos h2] at h
  by_cases h3:4096<(dr v).length
  ·rw[if_pos h3] at h;omega
  exact⟨h2,by omega,by omega⟩
 rw[if_neg h2] at h;exact absurd h h2
theorem checkV_of {v:TE0} (h1:OkV v) (h2:depthV v≤24) (h3: (dr v).length≤4096):checkV v=0:=by
 unfold checkV
 unfold OkV at h1
 rw[if_neg (by omega),if_pos h1,if_neg (by omega)]
theorem OkV.plain {v:TE0} (h:OkV v):PlainV v:=(alone_ok (OkV_iff.1 h).1).1
theorem OkV.part {v x:TE0} (h:OkV v) (hx:x∈v.ac):OkV x:=(OkV_iff.1 h).2 x hx
theorem evV (x:TE0): (⟨x.ab,(x.an),x.ak,x.aa,x.ac,x.af⟩:TE0)=x:=by cases x;rfl
theorem great_fine {n:Nat} (hn:6000<n) (v:TE0): ∃g,jY n v=some g∧(g=false→Fine v∧Small 30 v∧(dr v).length≤5000):=by
 obtain⟨g,h1,h2⟩:=great_ok (n:=n) (by omega) v
 exact⟨g,h1,λh=>⟨⟨Small.le (by omega) (h2 h).1,by have:=(h2 h).2;omega⟩,h2 h⟩⟩
end Go.Proofs.YtkopljikappieaaGreatDoor
end
end
section
namespace Go.Proofs.YtkopljikappieaaGreatDoor
open Go Go.Vc Go.RowKit
def gP (n:Nat) (aC:Bs):Option (Int×Bs):=
 some ((((aC.length:Nat):Int),aC))
theorem nf (n:Nat) (M:Mem) (b0:Nat) (Z1:Oa) (kc: (Z1=none∨Z1=some ⟨b0,0,none⟩)) (aC:Bs) (Z2:Oa) (P1:Nat) (L1:Lv) (D1:ae M (aC.map embB) L1) (r:Int×Bs) (hF:gP n aC=some r):OkH Tryz.prog M [oC b0 #[.pointer Z1,sL Z2 aC P1] 142,rO 5 1 Z2 aC P1 L1] 117 [pP b0] (λM' E' v=>∃ (Z3:Oa) (Z4:Oa) (P2:Nat) (L2:Lv),v=iL r.1∧E'=[oC b0 #[.pointer Z3,sL Z4 r.2 P2] 142,rO 5 1 Z4 r.2 P2 L2]∧(Z3=none∨Z3=some ⟨b0,0,none⟩)∧ae M' (r.2.map embB) L2):=by
 unfold gP at hF
 intro M1 hM0 w0 H w p0
 replace D1:=ae.mono hM0 _ _ D1
 refine Re 8 Tryz.func117 rfl λa0 f0=>RR (Ye f0 1 λ_ f=>RR (Y f 3 λ_ f=>Z f (XO p0 0) λ_ f=>Ye f 2 λ_ f=>wp_ret (am f rfl (Lk 2 (iL ((aC.length:Nat):Int))) ?_)))
 cases sI hF
 exact⟨_,rfl,M1,_,mL,p0.kr,⟨Z1,Z2,P1,L1,rfl,rfl,kc,D1⟩⟩
def eY (n:Nat) (aC:Bs):Option (Bs×Bs):=
 some ((aC,aC))
theorem dg (n:Nat) (M:Mem) (b0:Nat) (Z1:Oa) (kc: (Z1=none∨Z1=some ⟨b0,0,none⟩)) (aC:Bs) (Z2:Oa) (P1:Nat) (L1:Lv) (D1:ae M (aC.map embB) L1) (r:Bs×Bs) (hF:eY n aC=some r):OkH Tryz.prog M [oC b0 #[.pointer Z1,sL Z2 aC P1] 142,rO 5 1 Z2 aC P1 L1] 118 [pP b0] (λM' E' v=>∃ (Z3:Oa) (Z4:Oa) (P2:Nat),v=S r.1∧E'=[oC b0 #[.pointer Z3,sL Z4 r.2 P2] 142]∧(Z3=none∨Z3=some ⟨b0,0,none⟩)∧Sli M' 1 embB Z4 P2 r.2):=by
 unfold eY at hF
 intro M1 hM0 w0 H w p0
 replace D1:=ae.mono hM0 _ _ D1
 refine Re 14 Tryz.func118 rfl λa0 f0=>RR (Ye f0 1 λ_ f=>ah ?_)
 have N1:=p0.pl [1]
 refine cu 1 [(0,true),(1,true),(2,true),(3,true),(5,true),(6,true),(7,true),(8,true),(9,true),(4,false),(10,false),(11,true)] N1 (Y0 default f 3 λ_ f=>bG f kr kr rfl rfl (λ_ pq=>XO pq 0) λ_ f=>Y0 default f 3 λ_ f=>bG f kr kr rfl rfl (λ_ pq=>XO pq 0) λ_ f=>Y0 default f 1 λ_ f=>bI λW1 N2=>W_sliceData (v:=sL Z2 aC P1) f N2 kr kr rfl rfl rfl kr kr λef W2 N3 hd_1 _ f=>ag rfl (bL 1 mL N3 (bI λW3 N4=>rE (q:=ef) (v:=sL Z2 aC P1) (l:=aC) (A:=Z2) (cap:=P1) rfl f N4 D1 hd_1 kr kr rfl rfl rfl kr kr kr kr λV1 W4 J1 N5 B1 _ f=>ag rfl (bL 0 J1 N5 (Y0 default f 1 λ_ f=>dx rfl λW5 N6=>az (wp_ret (am f rfl (Lk 2 (S aC)) ?_)))))))
 cases sI hF
 exact⟨_,rfl,_,_,J1,N6.kr,⟨Z1,Z2,P1,rfl,rfl,kc,B1⟩⟩
def ct (n:Nat) (aC:Bs):Option Bs:=
 some (aC)
theorem ld (n:Nat) (M:Mem) (b0:Nat) (aC:Bs) (Z1:Oa) (P1:Nat) (L1:Lv) (D1:ae M (aC.map embB) L1) (r:Bs) (hF:ct n aC=some r):OkH Tryz.prog M [oC b0 #[.pointer none,sL Z1 aC P1] 142,rO 5 1 Z1 aC P1 L1] 140 [pP b0] (λM' E' v=>∃ (Z2:Oa) (Z3:Oa) (P2:Nat) (L2:Lv),v=.tuple #[]∧E'=[oC b0 #[.pointer Z2,sL Z3 r P2] 142,rO 5 1 Z3 r P2 L2]∧(Z2=none∨Z2=some ⟨b0,0,none⟩)∧ae M' (r.map embB) L2):=by
 unfold ct at hF
 intro M1 hM0 w0 H w p0
 replace D1:=ae.mono hM0 _ _ D1
 refine Re 20 Tryz.func140 rfl λa0 f0=>RR (Y f0 3 λ_ f=>Z f (XO p0 0) λ_ f=>Z (v:=bO true) f (X_ptrNil (q:=none) (e:=142) rfl kr kr kr _) λ_ f=>eT (iT f kr kr (ay (Y f 2 λ_ f=>Z (v:=pP b0) f (X_toUnsafe rfl kr (t:=142) kr kr kr p0 (i:=0) rfl (by simp)) λ_ f=>Z (v:=pP b0) f (X_here kr) λ_ f=>Z (v:=pP b0) f (X_fromUnsafe rfl kr (u:=142) kr kr kr p0 (i:=0) rfl kr) λ_ f=>Y f 2 λ_ f=>Wt f p0 0 0 (pP b0) λW1 N1 _ f=>ag rfl (eN f rfl ?_)))))
 cases sI hF
 exact⟨_,rfl,M1,_,mL,N1.kr,⟨(some ⟨b0,0,none⟩),Z1,P1,L1,rfl,rfl,(.inr rfl),D1⟩⟩
def iQ (n:Nat) (aC:Bs):Option Bs:=
 some (aC)
theorem kH (n:Nat) (M:Mem) (b0:Nat) (aC:Bs) (Z1:Oa) (P1:Nat) (L1:Lv) (D1:ae M (aC.map embB) L1) (r:Bs) (hF:iQ n aC=some r):OkH Tryz.prog M [oC b0 #[pP b0,sL Z1 aC P1] 142,rO 5 1 Z1 aC P1 L1] 140 [pP b0] (λM' E' v=>∃ (Z2:Oa) (Z3:Oa) (P2:Nat) (L2:Lv),v=.tuple #[]∧E'=[oC b0 #[.pointer Z2,sL Z3 r P2] 142,rO 5 1 Z3 r P2 L2]∧(Z2=none∨Z2=some ⟨b0,0,none⟩)∧ae M' (r.map embB) L2):=by
 unfold iQ at hF
 intro M1 hM0 w0 H w p0
 replace D1:=ae.mono hM0 _ _ D1
 refine Re 20 Tryz.func140 rfl λa0 f0=>RR (Y f0 3 λ_ f=>Z f (XO p0 0) λ_ f=>Z (v:=bO false) f (X_ptrNil (q:=some (⟨b0,0,none⟩)) (e:=142) rfl kr kr kr _) λ_ f=>eT (jE f kr kr (RR (Y f 3 λ_ f=>Z f (XO p0 0) λ_ f=>Y f 1 λ_ f=>Z (v:=bO false) f (X_ptrNeSame (a:=⟨b0,0,none⟩) (e:=142) rfl kr kr kr kr _) λ_ f=>eT (jE f kr kr (wp_skip (eN f rfl ?_)))))))
 cases sI hF
 exact⟨_,rfl,M1,_,mL,p0.kr,⟨(some ⟨b0,0,none⟩),Z1,P1,L1,rfl,rfl,(.inr rfl),D1⟩⟩
def bY (n:Nat) (aC:Bs):Option Bs:=ct n aC
theorem el (n:Nat) (M:Mem) (b0:Nat) (Z1:Oa) (kc: (Z1=none∨Z1=some ⟨b0,0,none⟩)) (aC:Bs) (Z2:Oa) (P1:Nat) (L1:Lv) (D1:ae M (aC.map embB) L1) (r:Bs) (hF:bY n aC=some r):OkH Tryz.prog M [oC b0 #[.pointer Z1,sL Z2 aC P1] 142,rO 5 1 Z2 aC P1 L1] 140 [pP b0] (λM' E' v=>∃ (Z3:Oa) (Z4:Oa) (P2:Nat) (L2:Lv),v=.tuple #[]∧E'=[oC b0 #[.pointer Z3,sL Z4 r P2] 142,rO 5 1 Z4 r P2 L2]∧(Z3=none∨Z3=some ⟨b0,0,none⟩)∧ae M' (r.map embB) L2):=by
 rcases kc with rfl|rfl
 ·exact ld n M b0 aC Z2 P1 L1 D1 r hF
 exact kH n M b0 aC Z2 P1 L1 D1 r hF
def cO (n:Nat) (aC:Bs) (d1:Bs):Option (Int×Unit×Bs):=
 (bY n aC).bind λX1=>
 aL ((X1.length+d1.length)*1≤140737488355328)<|
 some (((d1.length:Int),(),X1++d1))
theorem kG (n:Nat) (M:Mem) (b0:Nat) (Z1:Oa) (kc: (Z1=none∨Z1=some ⟨b0,0,none⟩)) (aC:Bs) (Z2:Oa) (P1:Nat) (L1:Lv) (D1:ae M (aC.map embB) L1) (d1:Bs) (r:Int×Unit×Bs) (hF:cO n aC d1=some r):OkH Tryz.prog M [oC b0 #[.pointer Z1,sL Z2 aC P1] 142,rO 5 1 Z2 aC P1 L1] 121 [pP b0,S d1] (λM' E' v=>∃ (Z6:Oa) (Z7:Oa) (P4:Nat) (L4:Lv),v=.tuple #[iL r.1,.nilIface]∧E'=[oC b0 #[.pointer Z6,sL Z7 r.2.2 P4] 142,rO 5 1 Z7 r.2.2 P4 L4]∧(Z6=none∨Z6=some ⟨b0,0,none⟩)∧ae M' (r.2.2.map embB) L4):=by
 unfold cO at hF
 intro M1 hM0 w0 H w p0
 replace D1:=ae.mono hM0 _ _ D1
 refine Re 19 Tryz.func121 rfl λa0 f0=>RR (Ye f0 2 λ_ f=>RR (Y f 1 λ_ f=>?_))
 obtain⟨X1,l1,F1⟩:=bS hF
 refine Ch f p0 (el n _ b0 Z1 kc aC Z2 P1 L1 D1 X1 l1) λ_ V1 mG W1 J1 N1 ef _ f=>?_
 obtain⟨Z3,Z4,P2,L2,rfl,rfl,pH,D2⟩:=ef
 refine eT (RR (Y f 4 λ_ f=>Z f (XO N1 0) λ_ f=>Y f 1 λ_ f=>?_))
 have N2:=N1.pl [1]
 obtain⟨O1,F2⟩:=nS F1
 refine qj (z:=.int .u8 0) (xs:=X1) (l:=d1) f N2 D2 kr kr rfl rfl rfl kr kr kr kr kr O1 (by omega) λZ5 P3 L3 W2 N3 D3 _ f=>Y f 2 λ_ f=>Wt f N3 1 1 (sL Z5 (X1++d1) P3) λW3 N4 _ f=>eT (RR (Ye f 4 λ_ f=>wp_ret (jR f rfl (Lk 4 (iL (d1.length:Int))) (Lk 5 (.nilIface)) ?_)))
 cases sI F2
 have N5:=N4.pl [1]
 exact⟨_,rfl,_,_,J1,N5.kr,⟨Z3,Z5,P3,L3,rfl,rfl,pH,D3⟩⟩
def bC (n:Nat) (aC:Bs) (d1:Int):Option (Unit×Bs):=
 (bY n aC).bind λX1=>
 aL (0≤d1∧d1<256)<|
 aL ((X1.length+1)*1≤140737488355328)<|
 some (((),X1++[UInt8.ofNat (d1).toNat]))
theorem eQ (n:Nat) (M:Mem) (b0:Nat) (Z1:Oa) (kc: (Z1=none∨Z1=some ⟨b0,0,none⟩)) (aC:Bs) (Z2:Oa) (P1:Nat) (L1:Lv) (D1:ae M (aC.map embB) L1) (d1:Int) (r:Unit×Bs) (hF:bC n aC d1=some r):OkH Tryz.prog M [oC b0 #[.pointer Z1,sL Z2 aC P1] 142,rO 5 1 Z2 aC P1 L1] 123 [pP b0,.int .u8 d1] (λM' E' v=>∃ (Z6:Oa) (Z7:Oa) (P4:Nat) (L4:Lv),v=.nilIface∧E'=[oC b0 #[.pointer Z6,sL Z7 r.2 P4] 142,rO 5 1 Z7 r.2 P4 L4]∧(Z6=none∨Z6=some ⟨b0,0,none⟩)∧ae M' (r.2.map embB) L4):=by
 unfold bC at hF
 intro M1 hM0 w0 H w p0
 replace D1:=ae.mono hM0 _ _ D1
 refine Re 17 Tryz.func123 rfl λa0 f0=>RR (Ye f0 1 λ_ f=>RR (Y f 1 λ_ f=>?_))
 obtain⟨X1,l1,F1⟩:=bS hF
 refine Ch f p0 (el n _ b0 Z1 kc aC Z2 P1 L1 D1 X1 l1) λ_ V1 mG W1 J1 N1 ef _ f=>?_
 obtain⟨Z3,Z4,P2,L2,rfl,rfl,pH,D2⟩:=ef
 refine eT (RR (Y f 4 λ_ f=>Z f (XO N1 0) λ_ f=>Y f 1 λ_ f=>aE (k:=1) (c:=1) f N1 (.cells #[.int .u8 d1] 5 (0,0)) kr (λ_=>by kernel_rfl) λQ1 W2 N2 _ f=>?_))
 obtain⟨O1,F2⟩:=nS F1
 have N3:=N2.pl [2]
 obtain⟨O2,F3⟩:=nS F2
 refine jW (z:=.int .u8 0) (f:=embB) (xs:=X1) (ys:=[UInt8.ofNat (d1).toNat]) (news:=[.int .u8 d1]) (ad:=⟨Q1,0,none⟩) (m:=1) (c:=1) f (N3.toRow 0 5 1 Z4 P2 D2) D2 (by exact⟨_,_,rfl,(ka (by omega)),rfl⟩) kr kr rfl rfl rfl kr kr kr kr rfl (ownK N3 1) (by exact O2) (by have hg_:=O2;first|omega|(simp only[List.length_cons,List.length_nil] at*;omega)) λZ5 P3 L3 W3 N4 D3 _ f=>?_
 have N5:=N4.pl [1]
 have N6:=N5.drop
 refine Y f 2 λ_ f=>Wt f N6 1 1 (sL Z5 (X1++[UInt8.ofNat (d1).toNat]) P3) λW4 N7 _ f=>eT (RR (Ye f 1 λ_ f=>wp_ret (am f rfl (Lk 4 (.nilIface)) ?_)))
 cases sI F3
 have N8:=N7.pl [1]
 exact⟨_,rfl,_,_,J1,N8.kr,⟨Z3,Z5,P3,L3,rfl,rfl,pH,D3⟩⟩
def cR (n:Nat) (d0:Bs) (d1:Int):Option Bs:=
 aL (inR .u32 (d1))<|
 bif(decide (d1≤2047)) then
  (aL (0≤(bOr .u8 (192:Int) (IntKind.wrap .u8 (bShr .i32 d1 (6:Int))))∧(bOr .u8 (192:Int) (IntKind.wrap .u8 (bShr .i32 d1 (6:Int))))<256)<|
  aL (0≤(bOr .u8 (128:Int) (bAnd .u8 (IntKind.wrap .u8 (d1)) (63:Int)))∧(bOr .u8 (128:Int) (bAnd .u8 (IntKind.wrap .u8 (d1)) (63:Int)))<256)<|
  aL ((d0.length+2)*1≤140737488355328)<|
  some (d0++[UInt8.ofNat (bOr .u8 (192:Int) (IntKind.wrap .u8 (bShr .i32 d1 (6:Int)))).toNat,UInt8.ofNat (bOr .u8 (128:Int) (bAnd .u8 (IntKind.wrap .u8 (d1)) (63:Int))).toNat]))
 else
  ((bif(decide (d1<55296)) then
   (some ((decide (d1<55296))))
    else
     bif(decide ((57343:Int)<d1)) then
      (some ((decide (d1≤65535))))
     else
      some ((false)):Option Bool)).bind λG1=>
  bif G1 then
   (aL (0≤(bOr .u8 (224:Int) (IntKind.wrap .u8 (bShr .i32 d1 (12:Int))))∧(bOr .u8 (224:Int) (IntKind.wrap .u8 (bShr .i32 d1 (12:Int))))<256)<|
   aL (0≤(bOr .u8 (128:Int) (bAnd .u8 (IntKind.wrap .u8 (bShr .i32 d1 (6:Int))) (63:Int)))∧(bOr .u8 (128:Int) (bAnd .u8 (IntKind.wrap .u8 (bShr .i32 d1 (6:Int))) (63:Int)))<256)<|
   aL (0≤(bOr .u8 (128:Int) (bAnd .u8 (IntKind.wrap .u8 (d1)) (63:Int)))∧(bOr .u8 (128:Int) (bAnd .u8 (IntKind.wrap .u8 (d1)) (63:Int)))<256)<|
   aL ((d0.length+3)*1≤140737488355328)<|
   some (d0++[UInt8.ofNat (bOr .u8 (224:Int) (IntKind.wrap .u8 (bShr .i32 d1 (12:Int)))).toNat,UInt8.ofNat (bOr .u8 (128:Int) (bAnd .u8 (IntKind.wrap .u8 (bShr .i32 d1 (6:Int))) (63:Int))).toNat,UInt8.ofNat (bOr .u8 (128:Int) (bAnd .u8 (IntKind.wrap .u8 (d1)) (63:Int))).toNat]))
  else
   ((bif(decide ((65535:Int)<d1)) then
    (some ((decide (d1≤1114111))))
     else
      some ((false)):Option Bool)).bind λG2=>
   bif G2 then
    (aL (0≤(bOr .u8 (240:Int) (IntKind.wrap .u8 (bShr .i32 d1 (18:Int))))∧(bOr .u8 (240:Int) (IntKind.wrap .u8 (bShr .i32 d1 (18:Int))))<256)<|
    aL (0≤(bOr .u8 (128:Int) (bAnd .u8 (IntKind.wrap .u8 (bShr .i32 d1 (12:Int))) (63:Int)))∧(bOr .u8 (128:Int) (bAnd .u8 (IntKind.wrap .u8 (bShr .i32 d1 (12:Int))) (63:Int)))<256)<|
    aL (0≤(bOr .u8 (128:Int) (bAnd .u8 (IntKind.wrap .u8 (bShr .i32 d1 (6:Int))) (63:Int)))∧(bOr .u8 (128:Int) (bAnd .u8 (IntKind.wrap .u8 (bShr .i32 d1 (6:Int))) (63:Int)))<256)<|
    aL (0≤(bOr .u8 (128:Int) (bAnd .u8 (IntKind.wrap .u8 (d1)) (63:Int)))∧(bOr .u8 (128:Int) (bAnd .u8 (IntKind.wrap .u8 (d1)) (63:Int)))<256)<|
    aL ((d0.length+4)*1≤140737488355328)<|
    some (d0++[UInt8.ofNat (bOr .u8 (240:Int) (IntKind.wrap .u8 (bShr .i32 d1 (18:Int)))).toNat,UInt8.ofNat (bOr .u8 (128:Int) (bAnd .u8 (IntKind.wrap .u8 (bShr .i32 d1 (12:Int))) (63:Int))).toNat,UInt8.ofNat (bOr .u8 (128:Int) (bAnd .u8 (IntKind.wrap .u8 (bShr .i32 d1 (6:Int))) (63:Int))).toNat,UInt8.ofNat (bOr .u8 (128:Int) (bAnd .u8 (IntKind.wrap .u8 (d1)) (63:Int))).toNat]))
   else
    aL ((d0.length+3)*1≤140737488355328)<|
    some (d0++[(239:UInt8),(191:UInt8),(189:UInt8)])
set_option maxRecDepth 20000 in
theorem jU (n:Nat) (M:Mem) (d0:Bs) (Z1:Oa) (P1:Nat) (L1:Lv) (D1:ae M (d0.map embB) L1) (d1:Int) (r:Bs) (hF:cR n d0 d1=some r):OkH Tryz.prog M [rO 5 1 Z1 d0 P1 L1] 156 [sL Z1 d0 P1,.int .i32 d1] (λM' E' v=>∃ (A0:Oa) (k0:Nat) (s0:Lv),v=sL A0 r k0∧E'=[.row 5 1 (sL A0 r k0) r.length s0]∧ae M' (r.map embB) s0):=by
 unfold cR at hF
 intro M1 hM0 w0 H w p0
 replace D1:=ae.mono hM0 _ _ D1
 refine Re 78 Tryz.func156 rfl λa0 f0=>RR (Ye f0 1 λ_ f=>RR (Y f 1 λ_ f=>?_))
 obtain⟨O1,F1⟩:=nS hF
 refine Y f 1 λ_ f=>?_
 have f:=f.st 7 (iW O1)
 refine Ye f 1 λ_ f=>wp_block (RR (Ye f 3 λ_ f=>RcF f F1 (λB1 F2=>?_) λB1 F6=>?_))
 ·refine RR (Y f 3 λ_ f=>Y f 1 λ_ f=>Y f 2 λ_ f=>Y f 1 λ_ f=>Y f 2 λ_ f=>aE (k:=2) (c:=2) f p0 (.cells #[.int .u8 (bOr .u8 (192:Int) (IntKind.wrap .u8 (bShr .i32 d1 (6:Int)))),.int .u8 (bOr .u8 (128:Int) (bAnd .u8 (IntKind.wrap .u8 (d1)) (63:Int)))] 5 (0,0)) kr (λ_=>by kernel_rfl) λQ1 W1 N1 _ f=>?_)
  obtain⟨O2,F3⟩:=nS F2
  obtain⟨O3,F4⟩:=nS F3
  have N2:=N1.pl [1]
  obtain⟨O4,F5⟩:=nS F4
  refine jW (z:=.int .u8 0) (f:=embB) (xs:=d0) (ys:=[UInt8.ofNat (bOr .u8 (192:Int) (IntKind.wrap .u8 (bShr .i32 d1 (6:Int)))).toNat,UInt8.ofNat (bOr .u8 (128:Int) (bAnd .u8 (IntKind.wrap .u8 (d1)) (63:Int))).toNat]) (news:=[.int .u8 (bOr .u8 (192:Int) (IntKind.wrap .u8 (bShr .i32 d1 (6:Int)))),.int .u8 (bOr .u8 (128:Int) (bAnd .u8 (IntKind.wrap .u8 (d1)) (63:Int)))]) (ad:=⟨Q1,0,none⟩) (m:=2) (c:=2) f (N2.toRow 0 5 1 Z1 P1 D1) D1 (by exact⟨_,_,rfl,(ka (by omega)),⟨_,_,rfl,(ka (by omega)),rfl⟩⟩) kr kr rfl rfl rfl kr kr kr kr rfl (ownK N2 1) (by exact O4) (by have hg_:=O4;first|omega|(simp only[List.length_cons,List.length_nil] at*;omega)) λZ2 P2 L2 W2 N3 D2 _ f=>?_
  have N4:=N3.pl [1]
  have N5:=N4.drop
  refine Ye f 1 λ_ f=>wp_ret (eu (am f rfl (Lk 4 (sL Z2 (d0++[UInt8.ofNat (bOr .u8 (192:Int) (IntKind.wrap .u8 (bShr .i32 d1 (6:Int)))).toNat,UInt8.ofNat (bOr .u8 (128:Int) (bAnd .u8 (IntKind.wrap .u8 (d1)) (63:Int))).toNat]) P2)) ?_))
  cases sI F5
  exact⟨_,rfl,M1,_,mL,N5.kr,⟨Z2,P2,L2,rfl,rfl,D2⟩⟩
 refine ah (RR (Ye f 3 λ_ f=>?_))
 obtain⟨eF,cL,F7⟩:=bS F6
 refine aW (λa_18 W3=>∃G1,eF=G1∧∃V1,M1.le V1∧Frm 78 ((25,bO G1)::kpL [0,1,5] f.fr) a_18∧Hp w0 V1 (p0.en) W3) ?_ ?_
 ·refine RcF f cL (λB2 F8=>?_) λB2 F9=>?_
  ·refine St ?_
   exact⟨_,(sI F8).symm,M1,mL,f.kp,p0.kr⟩
  refine ay (Y f 3 λ_ f=>?_)
  rcases cE F9 with⟨B3,F10⟩|⟨B3,F11⟩
  ·have f:=f.st 30 (cB B3)
   refine Ye f 4 λ_ f=>?_
   exact⟨_,(sI F10).symm,M1,mL,f.kp,p0.kr⟩
  have f:=f.st 30 (cB B3)
  refine Ye f 4 λ_ f=>?_
  exact⟨_,(sI F11).symm,M1,mL,f.kp,p0.kr⟩
 rintro a_18 W3 ⟨G1,eS,V1,J1,f,N6⟩
 dsimp only[Hp.en] at N6
 subst eF
 refine az (RcF f F7 (λB4 F12=>?_) λB4 F17=>?_)
 ·refine RR (Y f 3 λ_ f=>Y f 1 λ_ f=>Y f 3 λ_ f=>Y f 1 λ_ f=>Y f 3 λ_ f=>Y f 1 λ_ f=>Y f 2 λ_ f=>aE (k:=3) (c:=3) f N6 (.cells #[.int .u8 (bOr .u8 (224:Int) (IntKind.wrap .u8 (bShr .i32 d1 (12:Int)))),.int .u8 (bOr .u8 (128:Int) (bAnd .u8 (IntKind.wrap .u8 (bShr .i32 d1 (6:Int))) (63:Int))),.int .u8 (bOr .u8 (128:Int) (bAnd .u8 (IntKind.wrap .u8 (d1)) (63:Int)))] 5 (0,0)) kr (λ_=>by kernel_rfl) λQ2 W4 N7 _ f=>?_)
  obtain⟨O5,F13⟩:=nS F12
  obtain⟨O6,F14⟩:=nS F13
  obtain⟨O7,F15⟩:=nS F14
  have N8:=N7.pl [1]
  obtain⟨O8,F16⟩:=nS F15
  refine jW (z:=.int .u8 0) (f:=embB) (xs:=d0) (ys:=[UInt8.ofNat (bOr .u8 (224:Int) (IntKind.wrap .u8 (bShr .i32 d1 (12:Int)))).toNat,UInt8.ofNat (bOr .u8 (128:Int) (bAnd .u8 (IntKind.wrap .u8 (bShr .i32 d1 (6:Int))) (63:Int))).toNat,UInt8.ofNat (bOr .u8 (128:Int) (bAnd .u8 (IntKind.wrap .u8 (d1)) (63:Int))).toNat]) (news:=[.int .u8 (bOr .u8 (224:Int) (IntKind.wrap .u8 (bShr .i32 d1 (12:Int)))),.int .u8 (bOr .u8 (128:Int) (bAnd .u8 (IntKind.wrap .u8 (bShr .i32 d1 (6:Int))) (63:Int))),.int .u8 (bOr .u8 (128:Int) (bAnd .u8 (IntKind.wrap .u8 (d1)) (63:Int)))]) (ad:=⟨Q2,0,none⟩) (m:=3) (c:=3) f (N8.toRow 0 5 1 Z1 P1 D1.mo) D1.mo (by exact⟨_,_,rfl,(ka (by omega)),⟨_,_,rfl,(ka (by omega)),⟨_,_,rfl,(ka (by omega)),rfl⟩⟩⟩) kr kr rfl rfl rfl kr kr kr kr rfl (ownK N8 1) (by exact O8) (by have hg_:=O8;first|omega|(simp only[List.length_cons,List.length_nil] at*;omega)) λZ3 P3 L3 W5 N9 D3 _ f=>?_
  have N10:=N9.pl [1]
  have N11:=N10.drop
  refine Ye f 1 λ_ f=>wp_ret (eu (am f rfl (Lk 4 (sL Z3 (d0++[UInt8.ofNat (bOr .u8 (224:Int) (IntKind.wrap .u8 (bShr .i32 d1 (12:Int)))).toNat,UInt8.ofNat (bOr .u8 (128:Int) (bAnd .u8 (IntKind.wrap .u8 (bShr .i32 d1 (6:Int))) (63:Int))).toNat,UInt8.ofNat (bOr .u8 (128:Int) (bAnd .u8 (IntKind.wrap .u8 (d1)) (63:Int))).toNat]) P3)) ?_))
  cases sI F16
  exact⟨_,rfl,_,_,J1,N11.kr,⟨Z3,P3,L3,rfl,rfl,D3⟩⟩
 refine ah ?_
 obtain⟨lb,iJ,F18⟩:=bS F17
 refine aW (λa_32 W6=>∃G2,lb=G2∧∃V2,V1.le V2∧Frm 78 ((50,bO G2)::kpL [0,1] f.fr) a_32∧Hp w0 V2 (N6.en) W6) ?_ ?_
 ·refine ay (Y f 3 λ_ f=>?_)
  rcases cE iJ with⟨B5,F19⟩|⟨B5,F20⟩
  ·have f:=f.st 53 (cB B5)
   refine Ye f 4 λ_ f=>?_
   exact⟨_,(sI F19).symm,_,mL,f.kp,N6.kr⟩
  have f:=f.st 53 (cB B5)
  refine Ye f 4 λ_ f=>?_
  exact⟨_,(sI F20).symm,_,mL,f.kp,N6.kr⟩
 rintro a_32 W6 ⟨G2,hZ,V2,J2,f,N12⟩
 dsimp only[Hp.en] at N12
 subst lb
 refine az (RcF f F18 (λB6 F21=>?_) λB6 F27=>?_)
 ·refine RR (Y f 3 λ_ f=>Y f 1 λ_ f=>Y f 3 λ_ f=>Y f 1 λ_ f=>Y f 4 λ_ f=>Y f 1 λ_ f=>Y f 3 λ_ f=>Y f 1 λ_ f=>Y f 2 λ_ f=>aE (k:=4) (c:=4) f N12 (.cells #[.int .u8 (bOr .u8 (240:Int) (IntKind.wrap .u8 (bShr .i32 d1 (18:Int)))),.int .u8 (bOr .u8 (128:Int) (bAnd .u8 (IntKind.wrap .u8 (bShr .i32 d1 (12:Int))) (63:Int))),.int .u8 (bOr .u8 (128:Int) (bAnd .u8 (IntKind.wrap .u8 (bShr .i32 d1 (6:Int))) (63:Int))),.int .u8 (bOr .u8 (128:Int) (bAnd .u8 (IntKind.wrap .u8 (d1)) (63:Int)))] 5 (0,0)) kr (λ_=>by kernel_rfl) λQ3 W7 N13 _ f=>?_)
  obtain⟨O9,F22⟩:=nS F21
  obtain⟨O10,F23⟩:=nS F22
  obtain⟨O11,F24⟩:=nS F23
  obtain⟨O12,F25⟩:=nS F24
  have N14:=N13.pl [1]
  obtain⟨O13,F26⟩:=nS F25
  refine jW (z:=.int .u8 0) (f:=embB) (xs:=d0) (ys:=[UInt8.ofNat (bOr .u8 (240:Int) (IntKind.wrap .u8 (bShr .i32 d1 (18:Int)))).toNat,UInt8.ofNat (bOr .u8 (128:Int) (bAnd .u8 (IntKind.wrap .u8 (bShr .i32 d1 (12:Int))) (63:Int))).toNat,UInt8.ofNat (bOr .u8 (128:Int) (bAnd .u8 (IntKind.wrap .u8 (bShr .i32 d1 (6:Int))) (63:Int))).toNat,UInt8.ofNat (bOr .u8 (128:Int) (bAnd .u8 (IntKind.wrap .u8 (d1)) (63:Int))).toNat]) (news:=[.int .u8 (bOr .u8 (240:Int) (IntKind.wrap .u8 (bShr .i32 d1 (18:Int)))),.int .u8 (bOr .u8 (128:Int) (bAnd .u8 (IntKind.wrap .u8 (bShr .i32 d1 (12:Int))) (63:Int))),.int .u8 (bOr .u8 (128:Int) (bAnd .u8 (IntKind.wrap .u8 (bShr .i32 d1 (6:Int))) (63:Int))),.int .u8 (bOr .u8 (128:Int) (bAnd .u8 (IntKind.wrap .u8 (d1)) (63:Int)))]) (ad:=⟨Q3,0,none⟩) (m:=4) (c:=4) f (N14.toRow 0 5 1 Z1 P1 D1.mo) D1.mo (by exact⟨_,_,rfl,(ka (by omega)),⟨_,_,rfl,(ka (by omega)),⟨_,_,rfl,(ka (by omega)),⟨_,_,rfl,(ka (by omega)),rfl⟩⟩⟩⟩) kr kr rfl rfl rfl kr kr kr kr rfl (ownK N14 1) (by exact O13) (by have hg_:=O13;first|omega|(simp only[List.length_cons,List.length_nil] at*;omega)) λZ4 P4 L4 W8 N15 D4 _ f=>?_
  have N16:=N15.pl [1]
  have N17:=N16.drop
  refine Ye f 1 λ_ f=>wp_ret (eu (am f rfl (Lk 4 (sL Z4 (d0++[UInt8.ofNat (bOr .u8 (240:Int) (IntKind.wrap .u8 (bShr .i32 d1 (18:Int)))).toNat,UInt8.ofNat (bOr .u8 (128:Int) (bAnd .u8 (IntKind.wrap .u8 (bShr .i32 d1 (12:Int))) (63:Int))).toNat,UInt8.ofNat (bOr .u8 (128:Int) (bAnd .u8 (IntKind.wrap .u8 (bShr .i32 d1 (6:Int))) (63:Int))).toNat,UInt8.ofNat (bOr .u8 (128:Int) (bAnd .u8 (IntKind.wrap .u8 (d1)) (63:Int))).toNat]) P4)) ?_))
  cases sI F26
  exact⟨_,rfl,_,_,mL,N17.kr,⟨Z4,P4,L4,rfl,rfl,D4⟩⟩
 refine RR (Y f 1 λ_ f=>aE (k:=3) (c:=3) f N12 (.cells #[.int .u8 239,.int .u8 191,.int .u8 189] 5 (0,0)) kr (λ_=>by kernel_rfl) λQ4 W9 N18 _ f=>?_)
 have N19:=N18.pl [1]
 obtain⟨O14,F28⟩:=nS F27
 refine jW (z:=.int .u8 0) (f:=embB) (xs:=d0) (ys:=[(239:UInt8),(191:UInt8),(189:UInt8)]) (news:=[.int .u8 239,.int .u8 191,.int .u8 189]) (ad:=⟨Q4,0,none⟩) (m:=3) (c:=3) f (N19.toRow 0 5 1 Z1 P1 D1.mo) D1.mo (by exact⟨_,_,rfl,rfl,⟨_,_,rfl,rfl,⟨_,_,rfl,rfl,rfl⟩⟩⟩) kr kr rfl rfl rfl kr kr kr kr rfl (ownK N19 1) (by exact O14) (by have hg_:=O14;first|omega|(simp only[List.length_cons,List.length_nil] at*;omega)) λZ5 P5 L5 W10 N20 D5 _ f=>?_
 have N21:=N20.pl [1]
 have N22:=N21.drop
 refine Ye f 1 λ_ f=>wp_ret (eu (am f rfl (Lk 4 (sL Z5 (d0++[(239:UInt8),(191:UInt8),(189:UInt8)]) P5)) ?_))
 cases sI F28
 exact⟨_,rfl,_,_,mL,N22.kr,⟨Z5,P5,L5,rfl,rfl,D5⟩⟩
def dE (n:Nat) (d0:Bs) (d1:Int):Option Bs:=
 aL (inR .u32 (d1))<|
 bif(decide (d1≤127)) then
  (aL (0≤(IntKind.wrap .u8 (d1))∧(IntKind.wrap .u8 (d1))<256)<|
  aL ((d0.length+1)*1≤140737488355328)<|
  some (d0++[UInt8.ofNat (IntKind.wrap .u8 (d1)).toNat]))
 else
  (cR n d0 d1).bind λX1=>
  some (X1)
theorem lO (n:Nat) (M:Mem) (d0:Bs) (Z1:Oa) (P1:Nat) (L1:Lv) (D1:ae M (d0.map embB) L1) (d1:Int) (r:Bs) (hF:dE n d0 d1=some r):OkH Tryz.prog M [rO 5 1 Z1 d0 P1 L1] 142 [sL Z1 d0 P1,.int .i32 d1] (λM' E' v=>∃ (A0:Oa) (k0:Nat) (s0:Lv),v=sL A0 r k0∧E'=[.row 5 1 (sL A0 r k0) r.length s0]∧ae M' (r.map embB) s0):=by
 unfold dE at hF
 intro M1 hM0 w0 H w p0
 replace D1:=ae.mono hM0 _ _ D1
 refine Re 16 Tryz.func142 rfl λa0 f0=>RR (Ye f0 1 λ_ f=>ah (RR (Y f 1 λ_ f=>?_)))
 obtain⟨O1,F1⟩:=nS hF
 refine Y f 1 λ_ f=>?_
 have f:=f.st 6 (iW O1)
 refine Ye f 1 λ_ f=>RcF f F1 (λB1 F2=>?_) λB1 F5=>?_
 ·refine RR (Y f 2 λ_ f=>Y f 1 λ_ f=>aE (k:=1) (c:=1) f p0 (.cells #[.int .u8 (IntKind.wrap .u8 (d1))] 5 (0,0)) kr (λ_=>by kernel_rfl) λQ1 W1 N1 _ f=>?_)
  obtain⟨O2,F3⟩:=nS F2
  have N2:=N1.pl [1]
  obtain⟨O3,F4⟩:=nS F3
  refine jW (z:=.int .u8 0) (f:=embB) (xs:=d0) (ys:=[UInt8.ofNat (IntKind.wrap .u8 (d1)).toNat]) (news:=[.int .u8 (IntKind.wrap .u8 (d1))]) (ad:=⟨Q1,0,none⟩) (m:=1) (c:=1) f (N2.toRow 0 5 1 Z1 P1 D1) D1 (by exact⟨_,_,rfl,(ka (by omega)),rfl⟩) kr kr rfl rfl rfl kr kr kr kr rfl (ownK N2 1) (by exact O3) (by have hg_:=O3;first|omega|(simp only[List.length_cons,List.length_nil] at*;omega)) λZ2 P2 L2 W2 N3 D2 _ f=>?_
  have N4:=N3.pl [1]
  have N5:=N4.drop
  refine Ye f 1 λ_ f=>wp_ret (bl (am f rfl (Lk 4 (sL Z2 (d0++[UInt8.ofNat (IntKind.wrap .u8 (d1)).toNat]) P2)) ?_))
  cases sI F4
  exact⟨_,rfl,M1,_,mL,N5.kr,⟨Z2,P2,L2,rfl,rfl,D2⟩⟩
 refine St (RR (Y f 2 λ_ f=>?_))
 obtain⟨X1,l1,F6⟩:=bS F5
 refine Ch f p0 (jU n _ d0 Z1 P1 L1 D1 d1 X1 l1) λ_ V1 mG W3 J1 N6 ef _ f=>?_
 obtain⟨Z3,P3,L3,rfl,rfl,D3⟩:=ef
 refine Ye f 1 λ_ f=>wp_ret (am f rfl (Lk 4 (sL Z3 X1 P3)) ?_)
 cases sI F6
 exact⟨_,rfl,_,_,J1,N6.kr,⟨Z3,P3,L3,rfl,rfl,D3⟩⟩
def bV (n:Nat) (aC:Bs) (d1:Int):Option (Int×Unit×Bs):=
 (bY n aC).bind λX1=>
 (dE n X1 d1).bind λX2=>
 aL (inR .i64 (((X2.length:Nat):Int)- ((X1.length:Nat):Int)))<|
 some ((((X2.length:Nat):Int)- ((X1.length:Nat):Int),(),X2))
theorem im (n:Nat) (M:Mem) (b0:Nat) (Z1:Oa) (kc: (Z1=none∨Z1=some ⟨b0,0,none⟩)) (aC:Bs) (Z2:Oa) (P1:Nat) (L1:Lv) (D1:ae M (aC.map embB) L1) (d1:Int) (r:Int×Unit×Bs) (hF:bV n aC d1=some r):OkH Tryz.prog M [oC b0 #[.pointer Z1,sL Z2 aC P1] 142,rO 5 1 Z2 aC P1 L1] 124 [pP b0,.int .i32 d1] (λM' E' v=>∃ (Z6:Oa) (Z7:Oa) (P4:Nat) (L4:Lv),v=.tuple #[iL r.1,.nilIface]∧E'=[oC b0 #[.pointer Z6,sL Z7 r.2.2 P4] 142,rO 5 1 Z7 r.2.2 P4 L4]∧(Z6=none∨Z6=some ⟨b0,0,none⟩)∧ae M' (r.2.2.map embB) L4):=by
 unfold bV at hF
 intro M1 hM0 w0 H w p0
 replace D1:=ae.mono hM0 _ _ D1
 refine Re 30 Tryz.func124 rfl λa0 f0=>RR (Ye f0 2 λ_ f=>RR (Y f 1 λ_ f=>?_))
 obtain⟨X1,l1,F1⟩:=bS hF
 refine Ch f p0 (el n _ b0 Z1 kc aC Z2 P1 L1 D1 X1 l1) λ_ V1 mG W1 J1 N1 ef _ f=>?_
 obtain⟨Z3,Z4,P2,L2,rfl,rfl,pH,D2⟩:=ef
 refine eT (RR (Y f 3 λ_ f=>Z f (XO N1 0) λ_ f=>Ye f 2 λ_ f=>RR (Y f 4 λ_ f=>Z f (XO N1 0) λ_ f=>Y f 1 λ_ f=>?_)))
 obtain⟨X2,l2,F2⟩:=bS F1
 have N3:=N1.pl [1]
 refine Ch f N3 (lO n _ X1 Z4 P2 L2 D2 d1 X2 l2) λ_ V2 rB W2 J2 N2 iK _ f=>?_
 obtain⟨Z5,P3,L3,rfl,rfl,D3⟩:=iK
 refine Y f 2 λ_ f=>Wt f N2 1 1 (sL Z5 X2 P3) λW3 N4 _ f=>eT (RR (Y f 3 λ_ f=>Z f (XO N4 1) λ_ f=>Y f 2 λ_ f=>?_))
 obtain⟨O1,F3⟩:=nS F2
 refine Y f 1 λ_ f=>?_
 have f:=f.st 29 (iW O1)
 refine Ye f 2 λ_ f=>wp_ret (jR f rfl (Lk 4 (iL (((X2.length:Nat):Int)- ((X1.length:Nat):Int)))) (Lk 5 (.nilIface)) ?_)
 cases sI F3
 have N5:=N4.pl [1]
 exact⟨_,rfl,_,_,mL,N5.kr,⟨Z3,Z5,P3,L3,rfl,rfl,pH,D3⟩⟩
def mD (n:Nat) (d0:Bs):Option Bool:=
 (nJ n d0 [79,117,116,112,117,116,115,46]).bind λX1=>
 bif X1.2 then
  ((dz n X1.1).bind λX2=>
  some ((X2)))
 else
  (dz n d0).bind λX3=>
  some ((X3))
theorem qW (n:Nat) (M:Mem) (hG:GL M) (d0:Bs) (r:Bool) (hF:mD n d0=some r):Ok Tryz.prog M 79 [S d0] (λ_ v=>v=bO r):=by
 unfold mD at hF
 intro M1 hM0 w0 H w p0
 replace hG:=GL.mono hM0 hG
 refine Re 15 Tryz.func79 rfl λa0 f0=>RR (Ye f0 1 λ_ f=>ah (RR (Y f 1 λ_ f=>?_)))
 obtain⟨X1,l1,F1⟩:=bS hF
 refine Y9 f p0 (rU n _ hG d0 [79,117,116,112,117,116,115,46] X1 l1) λW1 N1 _ f=>Ye f 5 λ_ f=>RR (Ye f 1 λ_ f=>RcF f F1 (λB1 F2=>?_) λB1 F4=>?_)
 ·refine RR (Y f 1 λ_ f=>?_)
  obtain⟨X2,l2,F3⟩:=bS F2
  refine Y9 f N1 (dK n _ X1.1 X2 l2) λW2 N2 _ f=>Ye f 1 λ_ f=>wp_ret (bl (am f rfl (Lk 2 (bO X2)) ?_))
  cases sI F3
  exact⟨_,rfl,M1,mL,N2.kr,rfl⟩
 refine St (RR (Y f 1 λ_ f=>?_))
 obtain⟨X3,l3,F5⟩:=bS F4
 refine Y9 f N1 (dK n _ d0 X3 l3) λW3 N3 _ f=>Ye f 1 λ_ f=>wp_ret (am f rfl (Lk 2 (bO X3)) ?_)
 cases sI F5
 exact⟨_,rfl,M1,mL,N3.kr,rfl⟩
def nV (n:Nat) (d0:Bs):Option (TG0×Bool):=
 (h_Cut n d0 [46]).bind λX1=>
 bif X1.2.2 then
  ((((dz n X1.1).bind λX2=>
    bif X2 then
     ((mD n X1.2.1).bind λX3=>
     some ((X3)))
    else
     some ((false)):Option Bool)).bind λG1=>
  some (((⟨(4:Int),([]:Bs),(0:Int),X1.1,X1.2.1,([]:List TG0)⟩:TG0),(G1))))
 else
  (dz n X1.1).bind λX4=>
  some (((⟨(3:Int),([]:Bs),(0:Int),X1.1,([]:Bs),([]:List TG0)⟩:TG0),(X4)))
theorem sub_hole_ok (n:Nat) (M:Mem) (hG:GL M) (d0:Bs) (r:TG0×Bool) (hF:nV n d0=some r):Ok Tryz.prog M 122 [S d0] (λM' v=>∃ (c0:Lv),v=.tuple #[.agg c0.toArray,bO r.2]∧Rep M' (aA r.1) c0):=by
 unfold nV at hF
 intro M1 hM0 w0 H w p0
 replace hG:=GL.mono hM0 hG
 refine Re 27 Tryz.func122 rfl λa0 f0=>RR (Y4 f0 p0 (.cells #[iB 0,S [],iL 0,S [],S [],Sn] 31 (0,0)) λQ1 W1 N1 _ f=>Ye f 1 λ_ f=>RR (Y f 1 λ_ f=>?_))
 obtain⟨X1,l1,F1⟩:=bS hF
 refine Y9 f N1 (h_Cut_ok n _ hG d0 [46] X1 l1) λW2 N2 _ f=>Ye f 7 λ_ f=>ah (RR (Ye f 1 λ_ f=>RcF f F1 (λB1 F2=>?_) λB1 F8=>?_))
 ·refine ah ?_
  obtain⟨eF,cL,F3⟩:=bS F2
  refine aW (λa_18 W7=>∃G1,eF=G1∧∃V1,M1.le V1∧Frm 27 [(2,pP Q1),(3,bO G1)] a_18∧Hp w0 V1 (setE (setE (setE (N2.en) 0 0 [iB 4]) 0 3 [S X1.1]) 0 4 [S X1.2.1]) W7) ?_ ?_
  ·refine ay (Y f 4 λ_ f=>?_)
   obtain⟨X2,l2,F4⟩:=bS cL
   refine Y9 f N2 (dK n _ X1.1 X2 l2) λW3 N3 _ f=>Y f 1 λ_ f=>?_
   rcases cE F4 with⟨B2,F5⟩|⟨B2,F7⟩
   ·have f:=f.st 19 (cB B2)
    refine Y f 1 λ_ f=>?_
    obtain⟨X3,l3,F6⟩:=bS F5
    refine Y9 f N3 (qW n _ hG X1.2.1 X3 l3) λW4 N4 _ f=>Y f 1 λ_ f=>Wu f N4 0 0 [iB 4,S [],iL 0,S X1.1,S X1.2.1,Sn] λW5 N5 _ f=>Ye f 1 λ_ f=>?_
    exact⟨_,(sI F6).symm,M1,mL,f.kp,N5.kr⟩
   have f:=f.st 19 (cB B2)
   refine Y f 3 λ_ f=>Wu f N3 0 0 [iB 4,S [],iL 0,S X1.1,S X1.2.1,Sn] λW6 N6 _ f=>Ye f 1 λ_ f=>?_
   exact⟨_,(sI F7).symm,M1,mL,f.kp,N6.kr⟩
  rintro a_18 W7 ⟨G1,eS,V1,J1,f,N7⟩
  dsimp only[Hp.en] at N7
  subst eF
  refine az (wp_ret (bl (nn f rfl (Rv.oN [iB 4,S [],iL 0,S X1.1,S X1.2.1,Sn] f N7 0 0) (Rv.slot (v:=bO G1) f kr) ?_)))
  cases sI F3
  exact⟨_,rfl,_,J1,(N7.dropN 1).kr,⟨_,rfl,(TG0.shutx Sli.nil)⟩⟩
 refine St (RR (Y f 3 λ_ f=>?_))
 obtain⟨X4,l4,F9⟩:=bS F8
 refine Y9 f N2 (dK n _ X1.1 X4 l4) λW8 N8 _ f=>Wu f N8 0 0 [iB 3,S [],iL 0,S X1.1,S [],Sn] λW9 N9 _ f=>Ye f 1 λ_ f=>wp_ret (nn f rfl (Rv.oN [iB 3,S [],iL 0,S X1.1,S [],Sn] f N9 0 0) (Rv.slot (v:=bO X4) f kr) ?_)
 cases sI F9
 exact⟨_,rfl,M1,mL,(N9.dropN 1).kr,⟨[iB 3,S [],iL 0,S X1.1,S [],Sn],rfl,(TG0.shutx Sli.nil)⟩⟩
def eJ (n:Nat) (aC:Bs):Option Bs:=
 some (([]:Bs))
theorem lK (n:Nat) (M:Mem) (hG:GL M) (b0:Nat) (Z1:Oa) (kc: (Z1=none∨Z1=some ⟨b0,0,none⟩)) (aC:Bs) (Z2:Oa) (P1:Nat) (B1:Sli M 1 embB Z2 P1 aC) (r:Bs) (hF:eJ n aC=some r):OkH Tryz.prog M [oC b0 #[.pointer Z1,sL Z2 aC P1] 142] 119 [pP b0] (λM' E' v=>∃ (Z4:Oa) (Z5:Oa) (P3:Nat) (L1:Lv),v=.tuple #[]∧E'=[oC b0 #[.pointer Z4,sL Z5 r P3] 142,rO 5 1 Z5 r P3 L1]∧(Z4=none∨Z4=some ⟨b0,0,none⟩)∧ae M' (r.map embB) L1):=by
 unfold eJ at hF
 intro M1 hM0 w0 H w p0
 replace hG:=GL.mono hM0 hG
 replace B1:=B1.mono hM0
 refine Re 8 Tryz.func119 rfl λa0 f0=>RR (Y f0 3 λ_ f=>Wt f p0 0 0 (.pointer none) λW1 N1 _ f=>eT (ay (Y f 3 λ_ f=>Wt f N1 0 1 Sn λW2 N2 _ f=>ag rfl ?_)))
 obtain⟨Z3,P2,H1,N3⟩:=N2.nilC 0 1 5 1 (UInt8)
 have D1:ae M1 (([]:Bs).map embB) []:=rfl
 refine eN f rfl ?_
 cases sI hF
 have N4:=N3.pl [1]
 exact⟨_,rfl,M1,_,mL,N4.kr,⟨none,Z3,P2,[],rfl,rfl,(.inl rfl),D1⟩⟩
def lr (n:Nat) (aC:Bs) (dc:List TG0):Option (Bs×List TG0):=
 (gP n aC).bind λX1=>
 bif(decide ((0:Int)<X1.1)) then
  ((((eY n X1.2).bind λX2=>
    aL ((dc.length+1)*88≤140737488355328)<|
    (aB (dc++[aQ]) ((dc.length:Nat):Int)).bind λX3=>
    some ((X2.2,(dc++[aQ]).set ((dc.length:Nat):Int).toNat (⟨(0:Int),X2.1,(0:Int),([]:Bs),([]:Bs),([]:List TG0)⟩:TG0))):Option (Bs×List TG0))).bind λG1=>
  (eJ n G1.1).bind λX21=>
  some ((X21,G1.2)))
 else
  some ((X1.2,dc))
set_option maxRecDepth 20000 in
theorem qe (n:Nat) (M:Mem) (hG:GL M) (b0:Nat) (Z1:Oa) (kc: (Z1=none∨Z1=some ⟨b0,0,none⟩)) (aC:Bs) (Z2:Oa) (P1:Nat) (L1:Lv) (D1:ae M (aC.map embB) L1) (b1:Nat) (dc:List TG0) (Z3:Oa) (P2:Nat) (L2:Lv) (D2:ae M (dc.map aA) L2) (r:Bs×List TG0) (hF:lr n aC dc=some r):OkH Tryz.prog M [oC b0 #[.pointer Z1,sL Z2 aC P1] 142,rO 5 1 Z2 aC P1 L1,oC b1 #[sL Z3 dc P2] 29,rO 31 6 Z3 dc P2 L2] 116 [pP b0,pP b1] (λM' E' v=>∃ (Z30:Oa) (Z31:Oa) (P33:Nat) (L32:Lv) (Z32:Oa) (P34:Nat) (L33:Lv),v=.tuple #[]∧E'=[oC b0 #[.pointer Z30,sL Z31 r.1 P33] 142,rO 5 1 Z31 r.1 P33 L32,oC b1 #[sL Z32 r.2 P34] 29,rO 31 6 Z32 r.2 P34 L33]∧(Z30=none∨Z30=some ⟨b0,0,none⟩)∧ae M' (r.1.map embB) L32∧ae M' (r.2.map aA) L33):=by
 unfold lr at hF
 intro M1 hM0 w0 H w p0
 replace hG:=GL.mono hM0 hG
 replace D1:=ae.mono hM0 _ _ D1
 replace D2:=ae.mono hM0 _ _ D2
 refine Re 12 Tryz.func116 rfl λa0 f0=>RR ?_
 obtain⟨X1,l1,F1⟩:=bS hF
 refine Ch f0 p0 (nf n _ b0 Z1 kc aC Z2 P1 L1 D1 X1 l1) λ_ V1 mG W1 J1 N1 ef _ f=>?_
 obtain⟨Z4,Z5,P3,L3,rfl,rfl,pH,D3⟩:=ef
 refine Ye f 1 λ_ f=>RcF f F1 (λB1 F2=>?_) λB1 F8=>?_
 ·refine ah ?_
  obtain⟨eF,cL,F3⟩:=bS F2
  refine aW (λa_91 W146=>∃G1,eF=G1∧∃V8,V1.le V8∧∃Z25 Z26 P30 Z27 P31 L30,(Z25=none∨Z25=some ⟨b0,0,none⟩)∧Sli V8 1 embB Z26 P30 G1.1∧ae V8 (G1.2.map aA) L30∧Frm 12 [(0,pP b0)] a_91∧Hp w0 V8 ((rO 31 6 Z27 G1.2 P31 L30)::setE (setE (setE (selE [0,2] 4 N1.en) 0 0 [.pointer Z25]) 0 1 [sL Z26 G1.1 P30]) 1 0 [sL Z27 G1.2 P31]) W146) ?_ ?_
  ·obtain⟨X2,l2,F4⟩:=bS cL
   obtain⟨O1,F5⟩:=nS F4
   obtain⟨X3,l3,F6⟩:=bS F5
   refine dG [] 4 N1 (.alt 0 (.quiet 3 (.alt 1 (.quiet 2 (.alt 4 (.alt 5 (.alt 6 (.alt 7 (.alt 8 .done .none) (.alt 8 (.alt 7 .done .none) .none)) (.alt 8 (.alt 6 (.alt 7 .done .none) .none) .none)) .none) .none)) (.alt 4 (.alt 1 (.quiet 2 (.alt 5 (.alt 6 (.alt 7 (.alt 8 .done .none) (.alt 8 (.alt 7 .done .none) .none)) (.alt 8 (.alt 6 (.alt 7 .done .none) .none) .none)) .none)) .none) .none))) (.alt 1 (.quiet 2 (.alt 0 (.quiet 3 (.alt 4 (.alt 5 (.alt 6 (.alt 7 (.alt 8 .done .none) (.alt 8 (.alt 7 .done .none) .none)) (.alt 8 (.alt 6 (.alt 7 .done .none) .none) .none)) .none) .none)) (.alt 4 (.alt 0 (.quiet 3 (.alt 5 (.alt 6 (.alt 7 (.alt 8 .done .none) (.alt 8 (.alt 7 .done .none) .none)) (.alt 8 (.alt 6 (.alt 7 .done .none) .none) .none)) .none)) .none) .none))) (.alt 4 (.alt 0 (.quiet 3 (.alt 1 (.quiet 2 (.alt 5 (.alt 6 (.alt 7 (.alt 8 .done .none) (.alt 8 (.alt 7 .done .none) .none)) (.alt 8 (.alt 6 (.alt 7 .done .none) .none) .none)) .none)) .none)) (.alt 1 (.quiet 2 (.alt 0 (.quiet 3 (.alt 5 (.alt 6 (.alt 7 (.alt 8 .done .none) (.alt 8 (.alt 7 .done .none) .none)) (.alt 8 (.alt 6 (.alt 7 .done .none) .none) .none)) .none)) .none)) .none)) .none))) (ao rfl (λW7 N7=>?_) ?_)
   ·refine Z f (XO N7 2) λ_ f=>ag rfl (ap 4 mL N7 (Y1 (v:=iL ((dc.length:Nat):Int)) rfl f rfl rfl (λ_ _=>by kernel_rfl) λ_ f=>ao rfl (λW8 N8=>?_) ?_))
    ·refine Ch f N8 (dg n _ b0 Z4 pH X1.2 Z5 P3 L3 D3 X2 l2) λ_ V3 E_3 W9 J3 N9 mi _ f=>?_
     obtain⟨Z9,Z10,P7,rfl,rfl,hb_4,B3⟩:=mi
     refine ag rfl (ap 3 J3 N9 (Y1 (v:=.agg #[iB 0,S X2.1,iL 0,S [],S [],Sn]) rfl f rfl rfl (λ_ _=>by kernel_rfl) λ_ f=>ao rfl (λW10 N10=>?_) ?_))
     ·refine aE (k:=1) (c:=1) f N10 (.cells #[iB 0,S [],iL 0,S [],S [],Sn] 31 (0,0)) kr (λ_=>by kernel_rfl) λQ3 W11 N11 _ f=>ag rfl (ap 4 J3 N11 (ao rfl (λW12 N12=>?_) ?_))
      ·refine dM aQ 0 f (N12.toRow 3 31 6 Z3 P2 D2.mo) D2.mo (TG0.shutx Sli.nil) O1 λZ11 P8 L6 W13 N13 D6 _ f=>ag rfl (ap 3 J3 N13 (ao rfl (λW14 N14=>?_) ?_))
       ·obtain⟨Q4,P9,H2,rW⟩:=N14.rowAddr 0 rfl (bn l3)
        refine Z f (XIo H2 l3) λ_ f=>ag rfl (ap 3 J3 N14 (ao rfl (λW15 N15=>?_) ?_))
        ·refine Wr (xv:=(⟨(0:Int),X2.1,(0:Int),([]:Bs),([]:Bs),([]:List TG0)⟩:TG0)) (vs:=[iB 0,S X2.1,iL 0,S [],S [],Sn]) f N15 H2 (TG0.shutx Sli.nil) bT l3 D6 λL7 W16 N16 D7 hl_2 _ f=>?_
         try simp only[sL] at hl_2 N16
         rw[hl_2] at N16
         have f:=f.sv 9 Z11 P8 hl_2
         refine ag rfl (ap 3 J3 N16 (ao rfl (λW17 N17=>?_) ?_))
         ·refine Wt f N17 2 0 (sL Z11 ((dc++[aQ]).set ((dc.length:Nat):Int).toNat (⟨(0:Int),X2.1,(0:Int),([]:Bs),([]:Bs),([]:List TG0)⟩:TG0)) P8) λW18 N18 _ f=>ag rfl (ap 3 J3 N18 (dy λW19 N19=>az ?_))
          exact⟨_,(sI F6).symm,_,J3,Z9,Z10,P7,Z11,P8,L7,hb_4,B3,D7,f.kp,N19.kr⟩
         exact al
        refine ao rfl (λW20 N20=>?_) ?_
        ·refine Wt f N20 2 0 (sL Z11 (dc++[aQ]) P8) λW21 N21 _ f=>ag rfl (ap 3 J3 N21 (ao rfl (λW22 N22=>?_) ?_))
         ·refine Wr (xv:=(⟨(0:Int),X2.1,(0:Int),([]:Bs),([]:Bs),([]:List TG0)⟩:TG0)) (vs:=[iB 0,S X2.1,iL 0,S [],S [],Sn]) f N22 H2 (TG0.shutx Sli.nil) bT l3 D6 λL8 W23 N23 D8 hl_3 _ f=>?_
          try simp only[sL] at hl_3 N23
          rw[hl_3] at N23
          have f:=f.sv 9 Z11 P8 hl_3
          refine ag rfl (ap 3 J3 N23 (dy λW24 N24=>az ?_))
          exact⟨_,(sI F6).symm,_,J3,Z9,Z10,P7,Z11,P8,L8,hb_4,B3,D8,f.kp,N24.kr⟩
         exact al
        exact al
       refine ao rfl (λW25 N25=>?_) ?_
       ·refine Wt f N25 2 0 (sL Z11 (dc++[aQ]) P8) λW26 N26 _ f=>ag rfl (ap 3 J3 N26 (ao rfl (λW27 N27=>?_) ?_))
        ·obtain⟨Q5,P10,H3,hcap_3⟩:=N27.rowAddr 0 rfl (bn l3)
         refine Z f (XIo H3 l3) λ_ f=>ag rfl (ap 3 J3 N27 (ao rfl (λW28 N28=>?_) ?_))
         ·refine Wr (xv:=(⟨(0:Int),X2.1,(0:Int),([]:Bs),([]:Bs),([]:List TG0)⟩:TG0)) (vs:=[iB 0,S X2.1,iL 0,S [],S [],Sn]) f N28 H3 (TG0.shutx Sli.nil) bT l3 D6 λL9 W29 N29 D9 hl_4 _ f=>?_
          try simp only[sL] at hl_4 N29
          rw[hl_4] at N29
          have f:=f.sv 9 Z11 P8 hl_4
          refine ag rfl (ap 3 J3 N29 (dy λW30 N30=>az ?_))
          exact⟨_,(sI F6).symm,_,J3,Z9,Z10,P7,Z11,P8,L9,hb_4,B3,D9,f.kp,N30.kr⟩
         exact al
        exact al
       exact al
      exact al
     exact al
    refine ao rfl (λW31 N31=>?_) ?_
    ·refine aE (k:=1) (c:=1) f N31 (.cells #[iB 0,S [],iL 0,S [],S [],Sn] 31 (0,0)) kr (λ_=>by kernel_rfl) λQ6 W32 N32 _ f=>ag rfl (ap 5 mL N32 (ao rfl (λW33 N33=>?_) ?_))
     ·have N36:=N33.pl [2,2]
      refine Ch f N36 (dg n _ b0 Z4 pH X1.2 Z5 P3 L3 D3 X2 l2) λ_ V4 E_4 W34 J4 N34 nt _ f=>?_
      obtain⟨Z12,Z13,P11,rfl,rfl,hb_5,B4⟩:=nt
      refine ag rfl (ap 4 J4 N34 (Y1 (v:=.agg #[iB 0,S X2.1,iL 0,S [],S [],Sn]) rfl f rfl rfl (λ_ _=>by kernel_rfl) λ_ f=>ao rfl (λW35 N37=>?_) ?_))
      ·refine dM aQ 1 f (N37.toRow 3 31 6 Z3 P2 D2.mo) D2.mo (TG0.shutx Sli.nil) O1 λZ14 P12 L10 W36 N38 D10 _ f=>ag rfl (ap 3 J4 N38 (ao rfl (λW37 N39=>?_) ?_))
       ·obtain⟨Q7,P13,H4,hcap_4⟩:=N39.rowAddr 0 rfl (bn l3)
        refine Z f (XIo H4 l3) λ_ f=>ag rfl (ap 3 J4 N39 (ao rfl (λW38 N40=>?_) ?_))
        ·refine Wr (xv:=(⟨(0:Int),X2.1,(0:Int),([]:Bs),([]:Bs),([]:List TG0)⟩:TG0)) (vs:=[iB 0,S X2.1,iL 0,S [],S [],Sn]) f N40 H4 (TG0.shutx Sli.nil) bT l3 D10 λL11 W39 N41 D11 hl_5 _ f=>?_
         try simp only[sL] at hl_5 N41
         rw[hl_5] at N41
         have f:=f.sv 9 Z14 P12 hl_5
         refine ag rfl (ap 3 J4 N41 (ao rfl (λW40 N42=>?_) ?_))
         ·refine Wt f N42 2 0 (sL Z14 ((dc++[aQ]).set ((dc.length:Nat):Int).toNat (⟨(0:Int),X2.1,(0:Int),([]:Bs),([]:Bs),([]:List TG0)⟩:TG0)) P12) λW41 N43 _ f=>ag rfl (ap 3 J4 N43 (dy λW42 N44=>az ?_))
          exact⟨_,(sI F6).symm,_,J4,Z12,Z13,P11,Z14,P12,L11,hb_5,B4,D11,f.kp,N44.kr⟩
         exact al
        refine ao rfl (λW43 N45=>?_) ?_
        ·refine Wt f N45 2 0 (sL Z14 (dc++[aQ]) P12) λW44 N46 _ f=>ag rfl (ap 3 J4 N46 (ao rfl (λW45 N47=>?_) ?_))
         ·refine Wr (xv:=(⟨(0:Int),X2.1,(0:Int),([]:Bs),([]:Bs),([]:List TG0)⟩:TG0)) (vs:=[iB 0,S X2.1,iL 0,S [],S [],Sn]) f N47 H4 (TG0.shutx Sli.nil) bT l3 D10 λL12 W46 N48 D12 hl_6 _ f=>?_
          try simp only[sL] at hl_6 N48
          rw[hl_6] at N48
          have f:=f.sv 9 Z14 P12 hl_6
          refine ag rfl (ap 3 J4 N48 (dy λW47 N49=>az ?_))
          exact⟨_,(sI F6).symm,_,J4,Z12,Z13,P11,Z14,P12,L12,hb_5,B4,D12,f.kp,N49.kr⟩
         exact al
        exact al
       refine ao rfl (λW48 N50=>?_) ?_
       ·refine Wt f N50 2 0 (sL Z14 (dc++[aQ]) P12) λW49 N51 _ f=>ag rfl (ap 3 J4 N51 (ao rfl (λW50 N52=>?_) ?_))
        ·obtain⟨Q8,P14,H5,hcap_5⟩:=N52.rowAddr 0 rfl (bn l3)
         refine Z f (XIo H5 l3) λ_ f=>ag rfl (ap 3 J4 N52 (ao rfl (λW51 N53=>?_) ?_))
         ·refine Wr (xv:=(⟨(0:Int),X2.1,(0:Int),([]:Bs),([]:Bs),([]:List TG0)⟩:TG0)) (vs:=[iB 0,S X2.1,iL 0,S [],S [],Sn]) f N53 H5 (TG0.shutx Sli.nil) bT l3 D10 λL13 W52 N54 D13 rX _ f=>?_
          try simp only[sL] at rX N54
          rw[rX] at N54
          have f:=f.sv 9 Z14 P12 rX
          refine ag rfl (ap 3 J4 N54 (dy λW53 N55=>az ?_))
          exact⟨_,(sI F6).symm,_,J4,Z12,Z13,P11,Z14,P12,L13,hb_5,B4,D13,f.kp,N55.kr⟩
         exact al
        exact al
       exact al
      exact al
     exact al
    exact al
   refine ao rfl (λW54 N56=>?_) ?_
   ·refine Ch f N56 (dg n _ b0 Z4 pH X1.2 Z5 P3 L3 D3 X2 l2) λ_ V5 E_5 W55 J5 N57 pg _ f=>?_
    obtain⟨Z15,Z16,P15,rfl,rfl,hb_6,B5⟩:=pg
    refine ag rfl (ap 3 J5 N57 (Y1 (v:=.agg #[iB 0,S X2.1,iL 0,S [],S [],Sn]) rfl f rfl rfl (λ_ _=>by kernel_rfl) λ_ f=>ao rfl (λW56 N58=>?_) ?_))
    ·refine Z f (XO N58 1) λ_ f=>ag rfl (ap 3 J5 N58 (Y1 (v:=iL ((dc.length:Nat):Int)) rfl f rfl rfl (λ_ _=>by kernel_rfl) λ_ f=>ao rfl (λW57 N59=>?_) ?_))
     ·refine aE (k:=1) (c:=1) f N59 (.cells #[iB 0,S [],iL 0,S [],S [],Sn] 31 (0,0)) kr (λ_=>by kernel_rfl) λQ9 W58 N60 _ f=>ag rfl (ap 4 J5 N60 (ao rfl (λW59 N61=>?_) ?_))
      ·refine dM aQ 0 f (N61.toRow 3 31 6 Z3 P2 D2.mo) D2.mo (TG0.shutx Sli.nil) O1 λZ17 P16 L14 W60 N62 D14 _ f=>ag rfl (ap 3 J5 N62 (ao rfl (λW61 N63=>?_) ?_))
       ·obtain⟨Q10,P17,H6,hcap_6⟩:=N63.rowAddr 0 rfl (bn l3)
        refine Z f (XIo H6 l3) λ_ f=>ag rfl (ap 3 J5 N63 (ao rfl (λW62 N64=>?_) ?_))
        ·refine Wr (xv:=(⟨(0:Int),X2.1,(0:Int),([]:Bs),([]:Bs),([]:List TG0)⟩:TG0)) (vs:=[iB 0,S X2.1,iL 0,S [],S [],Sn]) f N64 H6 (TG0.shutx Sli.nil) bT l3 D14 λL15 W63 N65 D15 hl_8 _ f=>?_
         try simp only[sL] at hl_8 N65
         rw[hl_8] at N65
         have f:=f.sv 9 Z17 P16 hl_8
         refine ag rfl (ap 3 J5 N65 (ao rfl (λW64 N66=>?_) ?_))
         ·refine Wt f N66 2 0 (sL Z17 ((dc++[aQ]).set ((dc.length:Nat):Int).toNat (⟨(0:Int),X2.1,(0:Int),([]:Bs),([]:Bs),([]:List TG0)⟩:TG0)) P16) λW65 N67 _ f=>ag rfl (ap 3 J5 N67 (dy λW66 N68=>az ?_))
          exact⟨_,(sI F6).symm,_,J5,Z15,Z16,P15,Z17,P16,L15,hb_6,B5,D15,f.kp,N68.kr⟩
         exact al
        refine ao rfl (λW67 N69=>?_) ?_
        ·refine Wt f N69 2 0 (sL Z17 (dc++[aQ]) P16) λW68 N70 _ f=>ag rfl (ap 3 J5 N70 (ao rfl (λW69 N71=>?_) ?_))
         ·refine Wr (xv:=(⟨(0:Int),X2.1,(0:Int),([]:Bs),([]:Bs),([]:List TG0)⟩:TG0)) (vs:=[iB 0,S X2.1,iL 0,S [],S [],Sn]) f N71 H6 (TG0.shutx Sli.nil) bT l3 D14 λL16 W70 N72 D16 hl_9 _ f=>?_
          try simp only[sL] at hl_9 N72
          rw[hl_9] at N72
          have f:=f.sv 9 Z17 P16 hl_9
          refine ag rfl (ap 3 J5 N72 (dy λW71 N73=>az ?_))
          exact⟨_,(sI F6).symm,_,J5,Z15,Z16,P15,Z17,P16,L16,hb_6,B5,D16,f.kp,N73.kr⟩
         exact al
        exact al
       refine ao rfl (λW72 N74=>?_) ?_
       ·refine Wt f N74 2 0 (sL Z17 (dc++[aQ]) P16) λW73 N75 _ f=>ag rfl (ap 3 J5 N75 (ao rfl (λW74 N76=>?_) ?_))
        ·obtain⟨Q11,P18,H7,hcap_7⟩:=N76.rowAddr 0 rfl (bn l3)
         refine Z f (XIo H7 l3) λ_ f=>ag rfl (ap 3 J5 N76 (ao rfl (λW75 N77=>?_) ?_))
         ·refine Wr (xv:=(⟨(0:Int),X2.1,(0:Int),([]:Bs),([]:Bs),([]:List TG0)⟩:TG0)) (vs:=[iB 0,S X2.1,iL 0,S [],S [],Sn]) f N77 H7 (TG0.shutx Sli.nil) bT l3 D14 λL17 W76 N78 D17 qR _ f=>?_
          try simp only[sL] at qR N78
          rw[qR] at N78
          have f:=f.sv 9 Z17 P16 qR
          refine ag rfl (ap 3 J5 N78 (dy λW77 N79=>az ?_))
          exact⟨_,(sI F6).symm,_,J5,Z15,Z16,P15,Z17,P16,L17,hb_6,B5,D17,f.kp,N79.kr⟩
         exact al
        exact al
       exact al
      exact al
     exact al
    refine ao rfl (λW78 N80=>?_) ?_
    ·refine aE (k:=1) (c:=1) f N80 (.cells #[iB 0,S [],iL 0,S [],S [],Sn] 31 (0,0)) kr (λ_=>by kernel_rfl) λQ12 W79 N81 _ f=>ag rfl (ap 4 J5 N81 (ao rfl (λW80 N82=>?_) ?_))
     ·refine Z f (XO N82 2) λ_ f=>ag rfl (ap 4 J5 N82 (Y1 (v:=iL ((dc.length:Nat):Int)) rfl f rfl rfl (λ_ _=>by kernel_rfl) λ_ f=>ao rfl (λW81 N83=>?_) ?_))
      ·refine dM aQ 0 f (N83.toRow 3 31 6 Z3 P2 D2.mo) D2.mo (TG0.shutx Sli.nil) O1 λZ18 P19 L18 W82 N84 D18 _ f=>ag rfl (ap 3 J5 N84 (ao rfl (λW83 N85=>?_) ?_))
       ·obtain⟨Q13,P20,H8,hcap_8⟩:=N85.rowAddr 0 rfl (bn l3)
        refine Z f (XIo H8 l3) λ_ f=>ag rfl (ap 3 J5 N85 (ao rfl (λW84 N86=>?_) ?_))
        ·refine Wr (xv:=(⟨(0:Int),X2.1,(0:Int),([]:Bs),([]:Bs),([]:List TG0)⟩:TG0)) (vs:=[iB 0,S X2.1,iL 0,S [],S [],Sn]) f N86 H8 (TG0.shutx Sli.nil) bT l3 D18 λL19 W85 N87 D19 qS _ f=>?_
         try simp only[sL] at qS N87
         rw[qS] at N87
         have f:=f.sv 9 Z18 P19 qS
         refine ag rfl (ap 3 J5 N87 (ao rfl (λW86 N88=>?_) ?_))
         ·refine Wt f N88 2 0 (sL Z18 ((dc++[aQ]).set ((dc.length:Nat):Int).toNat (⟨(0:Int),X2.1,(0:Int),([]:Bs),([]:Bs),([]:List TG0)⟩:TG0)) P19) λW87 N89 _ f=>ag rfl (ap 3 J5 N89 (dy λW88 N90=>az ?_))
          exact⟨_,(sI F6).symm,_,J5,Z15,Z16,P15,Z18,P19,L19,hb_6,B5,D19,f.kp,N90.kr⟩
         exact al
        refine ao rfl (λW89 N91=>?_) ?_
        ·refine Wt f N91 2 0 (sL Z18 (dc++[aQ]) P19) λW90 N92 _ f=>ag rfl (ap 3 J5 N92 (ao rfl (λW91 N93=>?_) ?_))
         ·refine Wr (xv:=(⟨(0:Int),X2.1,(0:Int),([]:Bs),([]:Bs),([]:List TG0)⟩:TG0)) (vs:=[iB 0,S X2.1,iL 0,S [],S [],Sn]) f N93 H8 (TG0.shutx Sli.nil) bT l3 D18 λL20 W92 N94 D20 hl_12 _ f=>?_
          try simp only[sL] at hl_12 N94
          rw[hl_12] at N94
          have f:=f.sv 9 Z18 P19 hl_12
          refine ag rfl (ap 3 J5 N94 (dy λW93 N95=>az ?_))
          exact⟨_,(sI F6).symm,_,J5,Z15,Z16,P15,Z18,P19,L20,hb_6,B5,D20,f.kp,N95.kr⟩
         exact al
        exact al
       refine ao rfl (λW94 N96=>?_) ?_
       ·refine Wt f N96 2 0 (sL Z18 (dc++[aQ]) P19) λW95 N97 _ f=>ag rfl (ap 3 J5 N97 (ao rfl (λW96 N98=>?_) ?_))
        ·obtain⟨Q14,P21,H9,hcap_9⟩:=N98.rowAddr 0 rfl (bn l3)
         refine Z f (XIo H9 l3) λ_ f=>ag rfl (ap 3 J5 N98 (ao rfl (λW97 N99=>?_) ?_))
         ·refine Wr (xv:=(⟨(0:Int),X2.1,(0:Int),([]:Bs),([]:Bs),([]:List TG0)⟩:TG0)) (vs:=[iB 0,S X2.1,iL 0,S [],S [],Sn]) f N99 H9 (TG0.shutx Sli.nil) bT l3 D18 λL21 W98 N100 D21 hl_13 _ f=>?_
          try simp only[sL] at hl_13 N100
          rw[hl_13] at N100
          have f:=f.sv 9 Z18 P19 hl_13
          refine ag rfl (ap 3 J5 N100 (dy λW99 N101=>az ?_))
          exact⟨_,(sI F6).symm,_,J5,Z15,Z16,P15,Z18,P19,L21,hb_6,B5,D21,f.kp,N101.kr⟩
         exact al
        exact al
       exact al
      exact al
     exact al
    exact al
   refine ao rfl (λW100 N102=>?_) ?_
   ·refine aE (k:=1) (c:=1) f N102 (.cells #[iB 0,S [],iL 0,S [],S [],Sn] 31 (0,0)) kr (λ_=>by kernel_rfl) λQ15 W101 N103 _ f=>ag rfl (ap 5 mL N103 (ao rfl (λW102 N104=>?_) ?_))
    ·refine Z f (XO N104 3) λ_ f=>ag rfl (ap 5 mL N104 (Y1 (v:=iL ((dc.length:Nat):Int)) rfl f rfl rfl (λ_ _=>by kernel_rfl) λ_ f=>ao rfl (λW103 N105=>?_) ?_))
     ·have N108:=N105.pl [2,2]
      refine Ch f N108 (dg n _ b0 Z4 pH X1.2 Z5 P3 L3 D3 X2 l2) λ_ V6 E_6 W104 J6 N106 so _ f=>?_
      obtain⟨Z19,Z20,P22,rfl,rfl,hb_7,B6⟩:=so
      refine ag rfl (ap 4 J6 N106 (Y1 (v:=.agg #[iB 0,S X2.1,iL 0,S [],S [],Sn]) rfl f rfl rfl (λ_ _=>by kernel_rfl) λ_ f=>ao rfl (λW105 N109=>?_) ?_))
      ·refine dM aQ 1 f (N109.toRow 3 31 6 Z3 P2 D2.mo) D2.mo (TG0.shutx Sli.nil) O1 λZ21 P23 L22 W106 N110 D22 _ f=>ag rfl (ap 3 J6 N110 (ao rfl (λW107 N111=>?_) ?_))
       ·obtain⟨Q16,P24,H10,hcap_10⟩:=N111.rowAddr 0 rfl (bn l3)
        refine Z f (XIo H10 l3) λ_ f=>ag rfl (ap 3 J6 N111 (ao rfl (λW108 N112=>?_) ?_))
        ·refine Wr (xv:=(⟨(0:Int),X2.1,(0:Int),([]:Bs),([]:Bs),([]:List TG0)⟩:TG0)) (vs:=[iB 0,S X2.1,iL 0,S [],S [],Sn]) f N112 H10 (TG0.shutx Sli.nil) bT l3 D22 λL23 W109 N113 D23 hl_14 _ f=>?_
         try simp only[sL] at hl_14 N113
         rw[hl_14] at N113
         have f:=f.sv 9 Z21 P23 hl_14
         refine ag rfl (ap 3 J6 N113 (ao rfl (λW110 N114=>?_) ?_))
         ·refine Wt f N114 2 0 (sL Z21 ((dc++[aQ]).set ((dc.length:Nat):Int).toNat (⟨(0:Int),X2.1,(0:Int),([]:Bs),([]:Bs),([]:List TG0)⟩:TG0)) P23) λW111 N115 _ f=>ag rfl (ap 3 J6 N115 (dy λW112 N116=>az ?_))
          exact⟨_,(sI F6).symm,_,J6,Z19,Z20,P22,Z21,P23,L23,hb_7,B6,D23,f.kp,N116.kr⟩
         exact al
        refine ao rfl (λW113 N117=>?_) ?_
        ·refine Wt f N117 2 0 (sL Z21 (dc++[aQ]) P23) λW114 N118 _ f=>ag rfl (ap 3 J6 N118 (ao rfl (λW115 N119=>?_) ?_))
         ·refine Wr (xv:=(⟨(0:Int),X2.1,(0:Int),([]:Bs),([]:Bs),([]:List TG0)⟩:TG0)) (vs:=[iB 0,S X2.1,iL 0,S [],S [],Sn]) f N119 H10 (TG0.shutx Sli.nil) bT l3 D22 λL24 W116 N120 D24 hl_15 _ f=>?_
          try simp only[sL] at hl_15 N120
          rw[hl_15] at N120
          have f:=f.sv 9 Z21 P23 hl_15
          refine ag rfl (ap 3 J6 N120 (dy λW117 N121=>az ?_))
          exact⟨_,(sI F6).symm,_,J6,Z19,Z20,P22,Z21,P23,L24,hb_7,B6,D24,f.kp,N121.kr⟩
         exact al
        exact al
       refine ao rfl (λW118 N122=>?_) ?_
       ·refine Wt f N122 2 0 (sL Z21 (dc++[aQ]) P23) λW119 N123 _ f=>ag rfl (ap 3 J6 N123 (ao rfl (λW120 N124=>?_) ?_))
        ·obtain⟨Q17,P25,H11,hcap_11⟩:=N124.rowAddr 0 rfl (bn l3)
         refine Z f (XIo H11 l3) λ_ f=>ag rfl (ap 3 J6 N124 (ao rfl (λW121 N125=>?_) ?_))
         ·refine Wr (xv:=(⟨(0:Int),X2.1,(0:Int),([]:Bs),([]:Bs),([]:List TG0)⟩:TG0)) (vs:=[iB 0,S X2.1,iL 0,S [],S [],Sn]) f N125 H11 (TG0.shutx Sli.nil) bT l3 D22 λL25 W122 N126 D25 hl_16 _ f=>?_
          try simp only[sL] at hl_16 N126
          rw[hl_16] at N126
          have f:=f.sv 9 Z21 P23 hl_16
          refine ag rfl (ap 3 J6 N126 (dy λW123 N127=>az ?_))
          exact⟨_,(sI F6).symm,_,J6,Z19,Z20,P22,Z21,P23,L25,hb_7,B6,D25,f.kp,N127.kr⟩
         exact al
        exact al
       exact al
      exact al
     exact al
    refine ao rfl (λW124 N128=>?_) ?_
    ·have N131:=N128.pl [2,2]
     refine Ch f N131 (dg n _ b0 Z4 pH X1.2 Z5 P3 L3 D3 X2 l2) λ_ V7 E_7 W125 J7 N129 q_7 _ f=>?_
     obtain⟨Z22,Z23,P26,rfl,rfl,hb_8,B7⟩:=q_7
     refine ag rfl (ap 4 J7 N129 (Y1 (v:=.agg #[iB 0,S X2.1,iL 0,S [],S [],Sn]) rfl f rfl rfl (λ_ _=>by kernel_rfl) λ_ f=>ao rfl (λW126 N132=>?_) ?_))
     ·refine Z f (XO N132 2) λ_ f=>ag rfl (ap 4 J7 N132 (Y1 (v:=iL ((dc.length:Nat):Int)) rfl f rfl rfl (λ_ _=>by kernel_rfl) λ_ f=>ao rfl (λW127 N133=>?_) ?_))
      ·refine dM aQ 1 f (N133.toRow 3 31 6 Z3 P2 D2.mo) D2.mo (TG0.shutx Sli.nil) O1 λZ24 P27 L26 W128 N134 D26 _ f=>ag rfl (ap 3 J7 N134 (ao rfl (λW129 N135=>?_) ?_))
       ·obtain⟨Q18,P28,H12,hcap_12⟩:=N135.rowAddr 0 rfl (bn l3)
        refine Z f (XIo H12 l3) λ_ f=>ag rfl (ap 3 J7 N135 (ao rfl (λW130 N136=>?_) ?_))
        ·refine Wr (xv:=(⟨(0:Int),X2.1,(0:Int),([]:Bs),([]:Bs),([]:List TG0)⟩:TG0)) (vs:=[iB 0,S X2.1,iL 0,S [],S [],Sn]) f N136 H12 (TG0.shutx Sli.nil) bT l3 D26 λL27 W131 N137 D27 hl_17 _ f=>?_
         try simp only[sL] at hl_17 N137
         rw[hl_17] at N137
         have f:=f.sv 9 Z24 P27 hl_17
         refine ag rfl (ap 3 J7 N137 (ao rfl (λW132 N138=>?_) ?_))
         ·refine Wt f N138 2 0 (sL Z24 ((dc++[aQ]).set ((dc.length:Nat):Int).toNat (⟨(0:Int),X2.1,(0:Int),([]:Bs),([]:Bs),([]:List TG0)⟩:TG0)) P27) λW133 N139 _ f=>ag rfl (ap 3 J7 N139 (dy λW134 N140=>az ?_))
          exact⟨_,(sI F6).symm,_,J7,Z22,Z23,P26,Z24,P27,L27,hb_8,B7,D27,f.kp,N140.kr⟩
         exact al
        refine ao rfl (λW135 N141=>?_) ?_
        ·refine Wt f N141 2 0 (sL Z24 (dc++[aQ]) P27) λW136 N142 _ f=>ag rfl (ap 3 J7 N142 (ao rfl (λW137 N143=>?_) ?_))
         ·refine Wr (xv:=(⟨(0:Int),X2.1,(0:Int),([]:Bs),([]:Bs),([]:List TG0)⟩:TG0)) (vs:=[iB 0,S X2.1,iL 0,S [],S [],Sn]) f N143 H12 (TG0.shutx Sli.nil) bT l3 D26 λL28 W138 N144 D28 hl_18 _ f=>?_
          try simp only[sL] at hl_18 N144
          rw[hl_18] at N144
          have f:=f.sv 9 Z24 P27 hl_18
          refine ag rfl (ap 3 J7 N144 (dy λW139 N145=>az ?_))
          exact⟨_,(sI F6).symm,_,J7,Z22,Z23,P26,Z24,P27,L28,hb_8,B7,D28,f.kp,N145.kr⟩
         exact al
        exact al
       refine ao rfl (λW140 N146=>?_) ?_
       ·refine Wt f N146 2 0 (sL Z24 (dc++[aQ]) P27) λW141 N147 _ f=>ag rfl (ap 3 J7 N147 (ao rfl (λW142 N148=>?_) ?_))
        ·obtain⟨Q19,P29,H13,hcap_13⟩:=N148.rowAddr 0 rfl (bn l3)
         refine Z f (XIo H13 l3) λ_ f=>ag rfl (ap 3 J7 N148 (ao rfl (λW143 N149=>?_) ?_))
         ·refine Wr (xv:=(⟨(0:Int),X2.1,(0:Int),([]:Bs),([]:Bs),([]:List TG0)⟩:TG0)) (vs:=[iB 0,S X2.1,iL 0,S [],S [],Sn]) f N149 H13 (TG0.shutx Sli.nil) bT l3 D26 λL29 W144 N150 D29 hl_19 _ f=>?_
          try simp only[sL] at hl_19 N150
          rw[hl_19] at N150
          have f:=f.sv 9 Z24 P27 hl_19
          refine ag rfl (ap 3 J7 N150 (dy λW145 N151=>az ?_))
          exact⟨_,(sI F6).symm,_,J7,Z22,Z23,P26,Z24,P27,L29,hb_8,B7,D29,f.kp,N151.kr⟩
         exact al
        exact al
       exact al
      exact al
     exact al
    exact al
   exact al
  rintro a_91 W146 ⟨G1,eS,V8,J8,Z25,Z26,P30,Z27,P31,L30,hb_9,B8,D30,f,N152⟩
  dsimp only[Hp.en] at N152
  subst eF
  refine az (ay ?_)
  obtain⟨X21,l4,F7⟩:=bS F3
  have N154:=N152.pl [1]
  refine Ch f N154 (lK n _ hG.mo b0 Z25 hb_9 G1.1 Z26 P30 B8 X21 l4) λ_ V9 E_8 W147 J9 N153 q_8 _ f=>?_
  obtain⟨Z28,Z29,P32,L31,rfl,rfl,hb_10,D31⟩:=q_8
  refine ag rfl (eN f rfl ?_)
  cases sI F7
  have N158:=N153.pl [2,3,3,3]
  exact⟨_,rfl,_,_,mL,N158.kr,⟨Z28,Z29,P32,L31,Z27,P31,L30,rfl,rfl,hb_10,D31,D30.mo⟩⟩
 refine wp_skip (eN f rfl ?_)
 cases sI F8
 exact⟨_,rfl,_,_,J1,N1.kr,⟨Z4,Z5,P3,L3,Z3,P2,L2,rfl,rfl,pH,D3,D2.mo⟩⟩
def lL (n:Nat) (d0:Bs) (K1:Int×Int×List TG0×Bs×Nat):Option (Lp (Int×Int×List TG0×Bs×Nat) (Sum (Int×Bs×Nat) (Int×Int×Bs×List TG0×Nat))):=
    bif(decide (K1.2.2.2.2<d0.length)) then
     ((some (Lib.decodeL (d0.drop K1.2.2.2.2))).bind λX2=>
     ((bif(decide (K1.1=2)) then
      (some ((decide (((X2.1:Nat):Int)=125))))
       else
        some ((false)):Option Bool)).bind λG1=>
     bif G1 then
      (aL (inR .i64 (K1.2.1+2))<|
      aL (0≤(K1.2.1+2)∧(K1.2.1+2)≤((K1.2.2.2.2:Nat):Int)∧((K1.2.2.2.2:Nat):Int)≤d0.length)<|
      (nK n ((d0.take ((K1.2.2.2.2:Nat):Int).toNat).drop (K1.2.1+2).toNat) [33]).bind λX3=>
      bif X3 then
       (aL (0≤(1:Int)∧(1:Int)≤((d0.take ((K1.2.2.2.2:Nat):Int).toNat).drop (K1.2.1+2).toNat).length)<|
       aL ([36,123].length+ (((d0.take ((K1.2.2.2.2:Nat):Int).toNat).drop (K1.2.1+2).toNat).drop (1:Int).toNat).length≤9223372036854775807)<|
       aL (([36,123]++(((d0.take ((K1.2.2.2.2:Nat):Int).toNat).drop (K1.2.1+2).toNat).drop (1:Int).toNat)).length+ [125].length≤9223372036854775807)<|
       (cO n K1.2.2.2.1 (([36,123]++(((d0.take ((K1.2.2.2.2:Nat):Int).toNat).drop (K1.2.1+2).toNat).drop (1:Int).toNat))++[125])).bind λX4=>
       some (.nx ((0:Int),K1.2.1,K1.2.2.1,X4.2.2,K1.2.2.2.2+X2.2)))
      else
       (nV n ((d0.take ((K1.2.2.2.2:Nat):Int).toNat).drop (K1.2.1+2).toNat)).bind λX5=>
       bif X5.2 then
        ((lr n K1.2.2.2.1 K1.2.2.1).bind λX6=>
        ((aL ((X6.2.length+1)*88≤140737488355328)<|
          (aB (X6.2++[aQ]) ((X6.2.length:Nat):Int)).bind λX7=>
          some ((X6.2++[aQ]).set ((X6.2.length:Nat):Int).toNat X5.1):Option (List TG0))).bind λG2=>
        some (.nx ((0:Int),K1.2.1,G2,X6.1,K1.2.2.2.2+X2.2)))
       else
        some (.br (.inl (K1.2.1,K1.2.2.2.1,K1.2.2.2.2+X2.2))))
     else
      bif(decide (K1.1=2)) then
       (some (.nx (K1.1,K1.2.1,K1.2.2.1,K1.2.2.2.1,K1.2.2.2.2+X2.2)))
      else
       ((bif(decide (K1.1=1)) then
        (some ((decide (((X2.1:Nat):Int)=123))))
         else
          some ((false)):Option Bool)).bind λG3=>
       bif G3 then
        (some (.nx ((2:Int),K1.2.1,K1.2.2.1,K1.2.2.2.1,K1.2.2.2.2+X2.2)))
       else
        bif(decide (((X2.1:Nat):Int)=36)) then
         (bif(decide (K1.1=1)) then
          ((bC n K1.2.2.2.1 (36:Int)).bind λX12=>
          some (.nx ((1:Int),((K1.2.2.2.2:Nat):Int),K1.2.2.1,X12.2,K1.2.2.2.2+X2.2)))
         else
          some (.nx ((1:Int),((K1.2.2.2.2:Nat):Int),K1.2.2.1,K1.2.2.2.1,K1.2.2.2.2+X2.2)))
        else
         bif(decide (K1.1=1)) then
          ((bC n K1.2.2.2.1 (36:Int)).bind λX13=>
          (bV n X13.2 ((X2.1:Nat):Int)).bind λX14=>
          some (.nx ((0:Int),K1.2.1,K1.2.2.1,X14.2.2,K1.2.2.2.2+X2.2)))
         else
          (bV n K1.2.2.2.1 ((X2.1:Nat):Int)).bind λX15=>
          some (.nx ((0:Int),K1.2.1,K1.2.2.1,X15.2.2,K1.2.2.2.2+X2.2)))
    else
     some (.br (.inr (K1.1,K1.2.1,K1.2.2.2.1,K1.2.2.1,K1.2.2.2.2)))
def qd (n:Nat) (d0:Bs):Option (List TG0×Int×Int):=
 (gg n d0).bind λX1=>
 bif !X1 then
  (some ((([]:List TG0),(0:Int),(10:Int))))
 else
  bif(decide ((4096:Int)<(d0.length:Int))) then
   (some ((([]:List TG0),(0:Int),(3:Int))))
  else
   (au (lL n d0) n ((0:Int),(0:Int),([]:List TG0),([]:Bs),0)).bind λQ4=>
   (match Q4 with
   |.inl G4=>some ((([]:List TG0),G4.1,(130:Int)))
   |.inr G5=>((bif(decide (G5.1=2)) then
    (((some ((([]:List TG0),G5.2.1,(130:Int))):Option (List TG0×Int×Int))).map Lp.br)
    else
     bif(decide (G5.1=1)) then
      ((bC n G5.2.2.1 (36:Int)).bind λX16=>
      some (.nx X16.2))
     else
      some (.nx G5.2.2.1):Option (Lp Bs (List TG0×Int×Int)))).bind λj=>joinF j λG6=>
    (lr n G6 G5.2.2.2.1).bind λX17=>
    some ((X17.2,(0:Int),(0:Int))))
set_option maxRecDepth 20000 in
theorem sub_Lex_ok (n:Nat) (M:Mem) (hG:GL M) (d0:Bs) (r:List TG0×Int×Int) (hF:qd n d0=some r):OkH Tryz.prog M [] 81 [S d0] (λM' E' v=>∃ (A0:Oa) (k0:Nat) (s0:Lv),v=.tuple #[sL A0 r.1 k0,iL r.2.1,iL r.2.2]∧E'=[.row 31 6 (sL A0 r.1 k0) r.1.length s0]∧ae M' (r.1.map aA) s0):=by
 unfold qd at hF
 intro M1 hM0 w0 H w p0
 replace hG:=GL.mono hM0 hG
 refine Re 95 Tryz.func81 rfl λa0 f0=>RR (Y4 f0 p0 (.cells #[Sn] 29 (0,0)) λQ1 W1 N1 _ f=>Ye f 2 λ_ f=>ah (wp_block (RR (Y f 1 λ_ f=>?_))))
 obtain⟨X1,l1,F1⟩:=bS hF
 refine Y9 f N1 (kk n _ hG d0 X1 l1) λW2 N2 _ f=>Ye f 2 λ_ f=>RcF f F1 (λB1 F2=>?_) λB1 F3=>?_
 ·refine RR (Wt f N2 0 0 Sn λW3 N3 _ f=>Ye f 2 λ_ f=>wp_ret (eu (bl ?_)))
  have N4:Hp w0 M1 ((Ent.row 31 6 (.slice none 0 0) ([]:List TG0).length [])::(Ent.obj Q1 (.cells #[.slice none 0 0] 29 (0,0)))::H) W3:=N3.nilRow 31 6
  have D1:ae M1 (([]:List TG0).map aA) []:=rfl
  refine pn f rfl (Rv.o1 Sn f N4 1 0) (Rv.slot (v:=iL 0) f kr) (Rv.slot (v:=iL 10) f kr) ?_
  cases sI F2
  have N5:=N4.pl [1]
  exact⟨_,rfl,M1,_,mL,(N5.dropN 1).kr,⟨none,0,[],rfl,rfl,D1⟩⟩
 refine RR (Ye f 4 λ_ f=>RcF f F3 (λB2 F4=>?_) λB2 F5=>?_)
 ·refine RR (Wt f N2 0 0 Sn λW4 N6 _ f=>Ye f 2 λ_ f=>wp_ret (eu (bl ?_)))
  have N7:Hp w0 M1 ((Ent.row 31 6 (.slice none 0 0) ([]:List TG0).length [])::(Ent.obj Q1 (.cells #[.slice none 0 0] 29 (0,0)))::H) W4:=N6.nilRow 31 6
  have D2:ae M1 (([]:List TG0).map aA) []:=rfl
  refine pn f rfl (Rv.o1 Sn f N7 1 0) (Rv.slot (v:=iL 0) f kr) (Rv.slot (v:=iL 3) f kr) ?_
  cases sI F4
  have N8:=N7.pl [1]
  exact⟨_,rfl,M1,_,mL,(N8.dropN 1).kr,⟨none,0,[],rfl,rfl,D2⟩⟩
 refine wp_skip (ec (az (RR (Y4 f N2 (.cells #[.pointer none,Sn] 142 (0,0)) λQ2 W5 N9 _ f=>eT (RR (Ye f 2 λ_ f=>RR (Ye f 2 λ_ f=>ah (RR (Y f 1 λ_ f=>W_rangeS (l:=d0) f N9 kr kr rfl rfl rfl kr kr λQ3 W6 N10 _ f=>eT (wp_block ?_))))))))))
 obtain⟨Z1,P1,H1,N11⟩:=N10.nilC 2 0 31 6 (TG0)
 have D3:ae M1 (([]:List TG0).map aA) []:=rfl
 obtain⟨Z2,P2,H2,N12⟩:=N11.nilC 2 1 5 1 (UInt8)
 have D4:ae M1 (([]:Bs).map embB) []:=rfl
 have N17:=N12.pl [4,4,4,3,4]
 obtain⟨Q4,ce,F6⟩:=bS F5
 refine wp_mono (Q:=λe a w=>(e=.ret∧(∃G4,Q4=.inl G4∧∃V12,M1.le V12∧∃Z24 Z25 P22 L21,(Z24=none∨Z24=some ⟨Q2,0,none⟩)∧ae V12 (G4.2.1.map embB) L21∧Frm 95 [(2,pP Q1),(3,iL G4.1),(4,iL 130)] a∧Hp w0 V12 ((rO 5 1 Z25 G4.2.1 P22 L21)::(Ent.obj Q3 (.stringIter (mkS d0) G4.2.2))::setE (setE (setE (N17.en.drop 3) 0 0 [.pointer Z24]) 0 1 [sL Z25 G4.2.1 P22]) 1 0 [Sn]) w))∨(e=.exit 1∧(∃G5,Q4=.inr G5∧∃V13,M1.le V13∧∃Z26 Z27 P23 L22 Z28 P24 L23,(Z26=none∨Z26=some ⟨Q2,0,none⟩)∧ae V13 (G5.2.2.1.map embB) L22∧ae V13 (G5.t3.1.map aA) L23∧Frm 95 ((7,iL G5.1)::(8,iL G5.2.1)::kpL [2,5,6] f.fr) a∧Hp w0 V13 ((rO 5 1 Z27 G5.2.2.1 P23 L22)::(rO 31 6 Z28 G5.t3.1 P24 L23)::(Ent.obj Q3 (.stringIter (mkS d0) G5.t4))::setE (setE (setE (N17.en.drop 3) 0 0 [.pointer Z26]) 0 1 [sL Z27 G5.2.2.1 P23]) 1 0 [sL Z28 G5.t3.1 P24]) w))) (aZ (σ:=(Int×Int×List TG0×Bs×Nat)×Oa×Nat×Lv×Oa×Oa×Nat×Lv) (λx=>match x with|(I1,K1,Z3,P3,L1,Z4,Z5,P4,L2)=>(((7,iL K1.1)::(8,iL K1.2.1)::kpL [0,2,5,6,24] f.fr),((rO 31 6 Z3 K1.2.2.1 P3 L1)::(rO 5 1 Z5 K1.t3.1 P4 L2)::(Ent.obj Q3 (.stringIter (mkS d0) K1.t4))::setE (setE (setE (N17.en.drop 3) 0 0 [.pointer Z4]) 0 1 [sL Z5 K1.t3.1 P4]) 1 0 [sL Z3 K1.2.2.1 P3]),λMM=>au (lL n d0) I1 K1=some Q4∧ae MM (K1.2.2.1.map aA) L1∧(Z4=none∨Z4=some ⟨Q2,0,none⟩)∧ae MM (K1.t3.1.map embB) L2)) (n,((0:Int),(0:Int),([]:List TG0),([]:Bs),0),Z1,P1,[],none,Z2,P2,[]) (f.kp) N17.kr ⟨ce,D3,(.inl rfl),D4⟩ ?_) ?_
 ·rintro⟨I1,K1,Z3,P3,L1,Z4,Z5,P4,L2⟩ V1 _ W7 J1 gL f N18
  obtain⟨ci,D5,kc,D6⟩:=gL
  dsimp only[Hp.en] at N18
  obtain⟨I2,lT,rfl,bg,T1⟩:=aK ci
  unfold lL at bg
  refine RR ?_
  have N19:=N18.pl [2]
  rcases cE bg with⟨B3,F7⟩|⟨B3,F47⟩
  ·obtain⟨X2,l2,F8⟩:=bS F7
   refine W_nextS_go (l:=d0) (p:=K1.t4) (v:=X2) f N19 kr kr rfl rfl rfl kr (of_decide_eq_true B3) l2 λW8 N20 _ f=>Ye f 1 λ_ f=>ah (iT f kr kr (St (wp_block (RR (Ye f 4 λ_ f=>wp_block (ah ?_))))))
   obtain⟨eF,cL,F9⟩:=bS F8
   refine aW (λa_23 W9=>∃G1,eF=G1∧∃V2,V1.le V2∧Frm 95 ((34,bO G1)::kpL [0,2,5,6,7,8,9,10,24] f.fr) a_23∧Hp w0 V2 (N20.en) W9) ?_ ?_
   ·refine ay (Y f 3 λ_ f=>?_)
    rcases cE cL with⟨B4,F10⟩|⟨B4,F11⟩
    ·have f:=f.st 37 (cB B4)
     refine Ye f 4 λ_ f=>?_
     exact⟨_,(sI F10).symm,_,mL,f.kp,N20.kr⟩
    have f:=f.st 37 (cB B4)
    refine Ye f 4 λ_ f=>?_
    exact⟨_,(sI F11).symm,_,mL,f.kp,N20.kr⟩
   rintro a_23 W9 ⟨G1,eS,V2,J2,f,N21⟩
   dsimp only[Hp.en] at N21
   subst eF
   refine az (RcF f F9 (λB5 F12=>?_) λB5 F29=>?_)
   ·refine RR (Ye f 1 λ_ f=>RR (Y f 2 λ_ f=>?_))
    obtain⟨O1,F13⟩:=nS F12
    refine Y f 1 λ_ f=>?_
    have f:=f.st 43 (iW O1)
    refine Y f 1 λ_ f=>?_
    obtain⟨O2,F14⟩:=nS F13
    refine Z (v:=S ((d0.take ((K1.t4:Nat):Int).toNat).drop (K1.2.1+2).toNat)) f (oR rfl (l:=d0) (k:=.i64) (k':=.i64) (a:=K1.2.1+2) (b:=((K1.t4:Nat):Int)) kr kr kr kr O2.1 O2.2.1 O2.2.2) λ_ f=>Ye f 1 λ_ f=>RR (Y f 1 λ_ f=>?_)
    obtain⟨X3,l3,F15⟩:=bS F14
    refine Y9 f N21 (rV n _ hG.mo ((d0.take ((K1.t4:Nat):Int).toNat).drop (K1.2.1+2).toNat) [33] X3 l3) λW10 N22 _ f=>eT (RcF f F15 (λB6 F16=>?_) λB6 F21=>?_)
    ·refine ay (Y f 1 λ_ f=>?_)
     obtain⟨O3,F17⟩:=nS F16
     refine Z (v:=S (((d0.take ((K1.t4:Nat):Int).toNat).drop (K1.2.1+2).toNat).drop (1:Int).toNat)) f (oh rfl (l:=(d0.take ((K1.t4:Nat):Int).toNat).drop (K1.2.1+2).toNat) (k:=.i64) (a:=(1:Int)) kr kr kr O3.1 O3.2) λ_ f=>?_
     obtain⟨O4,F18⟩:=nS F17
     refine Z f (kJ rfl (l:=[36,123]) (m:=((d0.take ((K1.t4:Nat):Int).toNat).drop (K1.2.1+2).toNat).drop (1:Int).toNat) kr kr O4) λ_ f=>?_
     obtain⟨O5,F19⟩:=nS F18
     refine Z f (kJ rfl (l:=[36,123]++(((d0.take ((K1.t4:Nat):Int).toNat).drop (K1.2.1+2).toNat).drop (1:Int).toNat)) (m:=[125]) kr kr O5) λ_ f=>?_
     obtain⟨X4,l4,F20⟩:=bS F19
     have N25:=N22.pl [2,3]
     refine Ch f N25 (kG n _ Q2 Z4 kc K1.t3.1 Z5 P4 L2 D6.mo (([36,123]++(((d0.take ((K1.t4:Nat):Int).toNat).drop (K1.2.1+2).toNat).drop (1:Int).toNat))++[125]) X4 l4) λ_ V3 mG W11 J3 N23 ef _ f=>?_
     obtain⟨Z6,Z7,P5,L3,rfl,rfl,pH,D7⟩:=ef
     refine ag rfl (ec (ec ?_))
     have N108:=N23.pl [4,1,3,3,4]
     refine az ?_
     cases sI F20
     exact⟨⟨_,_,Z3,P3,L1,Z6,Z7,P5,L3⟩,Nat.lt_succ_self _,_,mL,⟨T1,D5.mo,pH,D7⟩,f.kp,N108.kr⟩
    refine RR (Y f 1 λ_ f=>?_)
    obtain⟨X5,l5,F22⟩:=bS F21
    refine Y8 f N22 (sub_hole_ok n _ hG.mo ((d0.take ((K1.t4:Nat):Int).toNat).drop (K1.2.1+2).toNat) X5 l5) λ_ V4 W12 J4 N26 iK _ f=>?_
    obtain⟨dW,rfl,D8⟩:=iK
    obtain⟨Z8,P6,rfl,B7⟩:=TG0.opn D8
    refine Y f 3 λ_ f=>Y4 f N26 (.cells #[iB 0,S [],iL 0,S [],S [],Sn] 31 (0,0)) λQ5 W13 N27 _ f=>Wu f N27 0 0 (lTG0 X5.1 Z8 P6) λW14 N28 _ f=>Ye f 1 λ_ f=>RR (Ye f 1 λ_ f=>RcF f F22 (λB8 F23=>?_) λB8 F28=>?_)
    ·refine RR (Y f 1 λ_ f=>?_)
     obtain⟨X6,l6,F24⟩:=bS F23
     have N33:=N28.pl [2,5,4,5]
     refine Ch f N33 (qe n _ hG.mo Q2 Z4 kc K1.t3.1 Z5 P4 L2 D6.mo Q1 K1.2.2.1 Z3 P3 L1 D5.mo X6 l6) λ_ V5 rB W15 J5 N29 mi _ f=>?_
     obtain⟨Z9,Z10,P7,L4,Z11,P8,L5,rfl,rfl,hb_3,D9,D10⟩:=mi
     refine eT ?_
     obtain⟨lb,iJ,F25⟩:=bS F24
     refine aW (λa_79 W64=>∃G2,lb=G2∧∃V6,V5.le V6∧∃Z15 P17 L16,ae V6 (G2.map aA) L16∧Frm 95 (kpL [0,2,5,6,7,8,24] f.fr) a_79∧Hp w0 V6 ((rO 31 6 Z15 G2 P17 L16)::setE (selE [2,0,1,4,5] 6 N29.en) 0 0 [sL Z15 G2 P17]) W64) ?_ ?_
     ·have N43:=N29.pl [5,5,3,3,5,5]
      obtain⟨O6,F26⟩:=nS iJ
      obtain⟨X7,l7,F27⟩:=bS F26
      refine dG [] 2 N43 (.quiet 1 (.alt 0 (.quiet 2 (.alt 3 (.alt 4 (.alt 5 (.alt 6 (.alt 7 .done .none) (.alt 7 (.alt 6 .done .none) .none)) (.alt 7 (.alt 5 (.alt 6 .done .none) .none) .none)) .none) .none)) (.alt 3 (.alt 0 (.quiet 2 (.alt 4 (.alt 5 (.alt 6 (.alt 7 .done .none) (.alt 7 (.alt 6 .done .none) .none)) (.alt 7 (.alt 5 (.alt 6 .done .none) .none) .none)) .none)) .none) .none))) (Y1 rfl f rfl rfl (λ_ pq=>XO pq 2) λ_ f=>ao rfl (λW20 N44=>?_) ?_)
      ·refine Z f (XO N44 0) λ_ f=>ag rfl (ap 2 mL N44 (Y1 (v:=iL ((X6.2.length:Nat):Int)) rfl f rfl rfl (λ_ _=>by kernel_rfl) λ_ f=>ao rfl (λW21 N45=>?_) ?_))
       ·refine aE (k:=1) (c:=1) f N45 (.cells #[iB 0,S [],iL 0,S [],S [],Sn] 31 (0,0)) kr (λ_=>by kernel_rfl) λQ8 W22 N46 _ f=>ag rfl (ap 3 mL N46 (ao rfl (λW23 N47=>?_) ?_))
        ·refine dM aQ 0 f (N47.toRow 2 31 6 Z11 P8 D10) D10 (TG0.shutx Sli.nil) O6 λZ13 P11 L8 W24 N48 D13 _ f=>ag rfl (ap 2 mL N48 (ao rfl (λW25 N49=>?_) ?_))
         ·obtain⟨Q9,P12,H4,rW⟩:=N49.rowAddr 0 rfl (bn l7)
          refine Z f (XIo H4 l7) λ_ f=>ag rfl (ap 2 mL N49 (ao rfl (λW26 N50=>?_) ?_))
          ·refine Wr f N50 H4 D8.mo bT l7 D13 λL9 W27 N51 D14 hl_2 _ f=>?_
           try simp only[sL] at hl_2 N51
           rw[hl_2] at N51
           have f:=f.sv 65 Z13 P11 hl_2
           refine ag rfl (ap 2 mL N51 (ao rfl (λW28 N52=>?_) ?_))
           ·refine Wt f N52 1 0 (sL Z13 ((X6.2++[aQ]).set ((X6.2.length:Nat):Int).toNat X5.1) P11) λW29 N53 _ f=>ag rfl (ap 2 mL N53 (dy λW30 N54=>az ?_))
            exact⟨_,(sI F27).symm,_,mL,Z13,P11,L9,D14,f.kp,N54.kr⟩
           exact al
          refine ao rfl (λW31 N55=>?_) ?_
          ·refine Wt f N55 1 0 (sL Z13 (X6.2++[aQ]) P11) λW32 N56 _ f=>ag rfl (ap 2 mL N56 (ao rfl (λW33 N57=>?_) ?_))
           ·refine Wr f N57 H4 D8.mo bT l7 D13 λL10 W34 N58 D15 hl_3 _ f=>?_
            try simp only[sL] at hl_3 N58
            rw[hl_3] at N58
            have f:=f.sv 65 Z13 P11 hl_3
            refine ag rfl (ap 2 mL N58 (dy λW35 N59=>az ?_))
            exact⟨_,(sI F27).symm,_,mL,Z13,P11,L10,D15,f.kp,N59.kr⟩
           exact al
          exact al
         refine ao rfl (λW36 N60=>?_) ?_
         ·refine Wt f N60 1 0 (sL Z13 (X6.2++[aQ]) P11) λW37 N61 _ f=>ag rfl (ap 2 mL N61 (ao rfl (λW38 N62=>?_) ?_))
          ·obtain⟨Q10,P13,H5,hcap_3⟩:=N62.rowAddr 0 rfl (bn l7)
           refine Z f (XIo H5 l7) λ_ f=>ag rfl (ap 2 mL N62 (ao rfl (λW39 N63=>?_) ?_))
           ·refine Wr f N63 H5 D8.mo bT l7 D13 λL11 W40 N64 D16 hl_4 _ f=>?_
            try simp only[sL] at hl_4 N64
            rw[hl_4] at N64
            have f:=f.sv 65 Z13 P11 hl_4
            refine ag rfl (ap 2 mL N64 (dy λW41 N65=>az ?_))
            exact⟨_,(sI F27).symm,_,mL,Z13,P11,L11,D16,f.kp,N65.kr⟩
           exact al
          exact al
         exact al
        exact al
       exact al
      refine ao rfl (λW42 N66=>?_) ?_
      ·refine aE (k:=1) (c:=1) f N66 (.cells #[iB 0,S [],iL 0,S [],S [],Sn] 31 (0,0)) kr (λ_=>by kernel_rfl) λQ11 W43 N67 _ f=>ag rfl (ap 3 mL N67 (ao rfl (λW44 N68=>?_) ?_))
       ·refine Z f (XO N68 1) λ_ f=>ag rfl (ap 3 mL N68 (Y1 (v:=iL ((X6.2.length:Nat):Int)) rfl f rfl rfl (λ_ _=>by kernel_rfl) λ_ f=>ao rfl (λW45 N69=>?_) ?_))
        ·refine dM aQ 0 f (N69.toRow 2 31 6 Z11 P8 D10) D10 (TG0.shutx Sli.nil) O6 λZ14 P14 L12 W46 N70 D17 _ f=>ag rfl (ap 2 mL N70 (ao rfl (λW47 N71=>?_) ?_))
         ·obtain⟨Q12,P15,H6,hcap_4⟩:=N71.rowAddr 0 rfl (bn l7)
          refine Z f (XIo H6 l7) λ_ f=>ag rfl (ap 2 mL N71 (ao rfl (λW48 N72=>?_) ?_))
          ·refine Wr f N72 H6 D8.mo bT l7 D17 λL13 W49 N73 D18 hl_5 _ f=>?_
           try simp only[sL] at hl_5 N73
           rw[hl_5] at N73
           have f:=f.sv 65 Z14 P14 hl_5
           refine ag rfl (ap 2 mL N73 (ao rfl (λW50 N74=>?_) ?_))
           ·refine Wt f N74 1 0 (sL Z14 ((X6.2++[aQ]).set ((X6.2.length:Nat):Int).toNat X5.1) P14) λW51 N75 _ f=>ag rfl (ap 2 mL N75 (dy λW52 N76=>az ?_))
            exact⟨_,(sI F27).symm,_,mL,Z14,P14,L13,D18,f.kp,N76.kr⟩
           exact al
          refine ao rfl (λW53 N77=>?_) ?_
          ·refine Wt f N77 1 0 (sL Z14 (X6.2++[aQ]) P14) λW54 N78 _ f=>ag rfl (ap 2 mL N78 (ao rfl (λW55 N79=>?_) ?_))
           ·refine Wr f N79 H6 D8.mo bT l7 D17 λL14 W56 N80 D19 hl_6 _ f=>?_
            try simp only[sL] at hl_6 N80
            rw[hl_6] at N80
            have f:=f.sv 65 Z14 P14 hl_6
            refine ag rfl (ap 2 mL N80 (dy λW57 N81=>az ?_))
            exact⟨_,(sI F27).symm,_,mL,Z14,P14,L14,D19,f.kp,N81.kr⟩
           exact al
          exact al
         refine ao rfl (λW58 N82=>?_) ?_
         ·refine Wt f N82 1 0 (sL Z14 (X6.2++[aQ]) P14) λW59 N83 _ f=>ag rfl (ap 2 mL N83 (ao rfl (λW60 N84=>?_) ?_))
          ·obtain⟨Q13,P16,H7,hcap_5⟩:=N84.rowAddr 0 rfl (bn l7)
           refine Z f (XIo H7 l7) λ_ f=>ag rfl (ap 2 mL N84 (ao rfl (λW61 N85=>?_) ?_))
           ·refine Wr f N85 H7 D8.mo bT l7 D17 λL15 W62 N86 D20 rX _ f=>?_
            try simp only[sL] at rX N86
            rw[rX] at N86
            have f:=f.sv 65 Z14 P14 rX
            refine ag rfl (ap 2 mL N86 (dy λW63 N87=>az ?_))
            exact⟨_,(sI F27).symm,_,mL,Z14,P14,L15,D20,f.kp,N87.kr⟩
           exact al
          exact al
         exact al
        exact al
       exact al
      exact al
     rintro a_79 W64 ⟨G2,hZ,V6,J6,Z15,P17,L16,D21,f,N88⟩
     dsimp only[Hp.en] at N88
     subst lb
     refine ec (ec ?_)
     have N114:=N88.pl [1,2,5,4,4,5]
     refine az ?_
     cases sI F25
     exact⟨⟨_,_,Z15,P17,L16,Z9,Z10,P7,L4⟩,Nat.lt_succ_self _,_,mL,⟨T1,D21,hb_3,D9.mo⟩,f.kp,(N114.dropN 1).kr⟩
    refine RR (Y f 1 λ_ f=>Wt f N28 5 0 Sn λW65 N89 _ f=>Ye f 2 λ_ f=>wp_ret (eu (eu ?_)))
    have N120:=N89.pl [5,5,3,5,5,5]
    refine bl ?_
    cases sI F28
    exact .inl ⟨rfl,_,(sI T1).symm,_,mL,Z4,Z5,P4,L2,kc,D6.mo,f.kp,(N120.dropN 2).kr⟩
   refine RR (Ye f 3 λ_ f=>RcF f F29 (λB9 F30=>?_) λB9 F31=>?_)
   ·refine wp_skip (ec (ec ?_))
    have N125:=N21.pl [4,4,2,4,4]
    refine az ?_
    cases sI F30
    exact⟨⟨_,_,Z3,P3,L1,Z4,Z5,P4,L2⟩,Nat.lt_succ_self _,_,mL,⟨T1,D5.mo,kc,D6.mo⟩,f.kp,N125.kr⟩
   refine ah ?_
   obtain⟨ns,la,F32⟩:=bS F31
   refine aW (λa_87 W66=>∃G3,ns=G3∧∃V7,V2.le V7∧Frm 95 ((71,bO G3)::kpL [0,2,5,6,7,8,9,10,24] f.fr) a_87∧Hp w0 V7 (N21.en) W66) ?_ ?_
   ·refine ay (Y f 3 λ_ f=>?_)
    rcases cE la with⟨B10,F33⟩|⟨B10,F34⟩
    ·have f:=f.st 74 (cB B10)
     refine Ye f 4 λ_ f=>?_
     exact⟨_,(sI F33).symm,_,mL,f.kp,N21.kr⟩
    have f:=f.st 74 (cB B10)
    refine Ye f 4 λ_ f=>?_
    exact⟨_,(sI F34).symm,_,mL,f.kp,N21.kr⟩
   rintro a_87 W66 ⟨G3,qt,V7,J7,f,N90⟩
   dsimp only[Hp.en] at N90
   subst ns
   refine az (RcF f F32 (λB11 F35=>?_) λB11 F36=>?_)
   ·refine ay (Y f 1 λ_ f=>ag rfl (ec (ec ?_)))
    have N130:=N90.pl [4,4,2,4,4]
    refine az ?_
    cases sI F35
    exact⟨⟨_,_,Z3,P3,L1,Z4,Z5,P4,L2⟩,Nat.lt_succ_self _,_,mL,⟨T1,D5.mo,kc,D6.mo⟩,f.kp,N130.kr⟩
   refine RR (Ye f 3 λ_ f=>RcF f F36 (λB12 F37=>?_) λB12 F41=>?_)
   ·refine ah (RR (Ye f 2 λ_ f=>RcF f F37 (λB13 F38=>?_) λB13 F40=>?_))
    ·refine ay ?_
     obtain⟨X12,l8,F39⟩:=bS F38
     have N93:=N90.pl [2,3]
     refine Ch f N93 (eQ n _ Q2 Z4 kc K1.t3.1 Z5 P4 L2 D6.mo (36:Int) X12 l8) λ_ V8 E_3 W67 J8 N91 nt _ f=>?_
     obtain⟨Z16,Z17,P18,L17,rfl,rfl,hb_4,D22⟩:=nt
     refine eT (ay (Y f 3 λ_ f=>ag rfl (ec (ec ?_))))
     have N135:=N91.pl [4,1,3,3,4]
     refine az ?_
     cases sI F39
     exact⟨⟨_,_,Z3,P3,L1,Z16,Z17,P18,L17⟩,Nat.lt_succ_self _,_,mL,⟨T1,D5.mo,hb_4,D22⟩,f.kp,N135.kr⟩
    refine St (ay (Y f 3 λ_ f=>ag rfl (ec (ec ?_))))
    have N140:=N90.pl [4,4,2,4,4]
    refine az ?_
    cases sI F40
    exact⟨⟨_,_,Z3,P3,L1,Z4,Z5,P4,L2⟩,Nat.lt_succ_self _,_,mL,⟨T1,D5.mo,kc,D6.mo⟩,f.kp,N140.kr⟩
   refine ah (RR (Ye f 2 λ_ f=>RcF f F41 (λB14 F42=>?_) λB14 F45=>?_))
   ·refine ay ?_
    obtain⟨X13,l9,F43⟩:=bS F42
    have N96:=N90.pl [2,3]
    refine Ch f N96 (eQ n _ Q2 Z4 kc K1.t3.1 Z5 P4 L2 D6.mo (36:Int) X13 l9) λ_ V9 E_4 W68 J9 N94 pg _ f=>?_
    obtain⟨Z18,Z19,P19,L18,rfl,rfl,hb_5,D23⟩:=pg
    refine eT (RR (Ye f 1 λ_ f=>ay (Y f 1 λ_ f=>?_)))
    obtain⟨X14,l10,F44⟩:=bS F43
    refine Ch f N94 (im n _ Q2 Z18 hb_5 X13.2 Z19 P19 L18 D23 ((X2.1:Nat):Int) X14 l10) λ_ V10 E_5 W69 J10 N97 so _ f=>?_
    obtain⟨Z20,Z21,P20,L19,rfl,rfl,hb_6,D24⟩:=so
    refine ag rfl (ec (ec ?_))
    have N145:=N97.pl [4,1,3,3,4]
    refine az ?_
    cases sI F44
    exact⟨⟨_,_,Z3,P3,L1,Z20,Z21,P20,L19⟩,Nat.lt_succ_self _,_,mL,⟨T1,D5.mo,hb_6,D24⟩,f.kp,N145.kr⟩
   refine St (RR (Ye f 1 λ_ f=>ay (Y f 1 λ_ f=>?_)))
   obtain⟨X15,l11,F46⟩:=bS F45
   have N100:=N90.pl [2,3]
   refine Ch f N100 (im n _ Q2 Z4 kc K1.t3.1 Z5 P4 L2 D6.mo ((X2.1:Nat):Int) X15 l11) λ_ V11 E_6 W70 J11 N98 q_7 _ f=>?_
   obtain⟨Z22,Z23,P21,L20,rfl,rfl,hb_7,D25⟩:=q_7
   refine ag rfl (ec (ec ?_))
   have N150:=N98.pl [4,1,3,3,4]
   refine az ?_
   cases sI F46
   exact⟨⟨_,_,Z3,P3,L1,Z22,Z23,P21,L20⟩,Nat.lt_succ_self _,_,mL,⟨T1,D5.mo,hb_7,D25⟩,f.kp,N150.kr⟩
  refine W_nextS_end (l:=d0) (p:=K1.t4) f N19 kr kr rfl rfl rfl kr (of_decide_eq_false B3) λW71 N101 _ f=>Ye f 1 λ_ f=>ah (jE f kr kr (wp_exit (dJ ?_)))
  have N155:=N101.pl [4,4,2,3,4]
  refine dJ ?_
  cases sI F47
  exact .inr ⟨rfl,_,(sI T1).symm,_,J1,Z4,Z5,P4,L2,Z3,P3,L1,kc,D6,D5,f.kp,N155.kr⟩
 rintro _ _ W74 (⟨rfl,G4,rfl,V12,J12,Z24,Z25,P22,L21,hb_8,D26,f,N102⟩|⟨rfl,G5,rfl,V13,J13,Z26,Z27,P23,L22,Z28,P24,L23,hb_9,D27,D28,f,N103⟩)
 ·refine eu (bl ?_)
  have N156:Hp w0 V12 ((Ent.row 31 6 (.slice none 0 0) ([]:List TG0).length [])::(Ent.row 5 1 (.slice Z25 G4.2.1.length P22) G4.2.1.length L21)::(Ent.obj Q3 (.stringIter (mkS d0) G4.2.2))::(Ent.obj Q2 (.cells #[.pointer Z24,.slice Z25 G4.2.1.length P22] 142 (0,0)))::(Ent.obj Q1 (.cells #[.slice none 0 0] 29 (0,0)))::H) W74:=N102.nilRow 31 6
  have D29:ae V12 (([]:List TG0).map aA) []:=rfl
  refine pn f rfl (Rv.o1 Sn f N156 4 0) (Rv.slot (v:=iL G4.1) f kr) (Rv.slot (v:=iL 130) f kr) ?_
  cases sI F6
  have N160:=N156.pl [4,4,4,4]
  exact⟨_,rfl,_,_,J12,(N160.dropN 4).kr,⟨none,0,[],rfl,rfl,D29⟩⟩
 refine jV (az (ah (RR (Ye f 1 λ_ f=>?_))))
 obtain⟨qh,mK,F48⟩:=bS F6
 refine aW (λa_114 W77=>∃G6,qh=.nx G6∧∃V15,V13.le V15∧∃Z31 Z32 P26 L25,(Z31=none∨Z31=some ⟨Q2,0,none⟩)∧ae V15 (G6.map embB) L25∧Frm 95 (kpL [2,6] f.fr) a_114∧Hp w0 V15 ((rO 5 1 Z32 G6 P26 L25)::setE (setE (selE [3,1,2,4] 5 N103.en) 0 0 [.pointer Z31]) 0 1 [sL Z32 G6 P26]) W77) ?_ ?_
 ·refine wp_block (RR (Ye f 2 λ_ f=>RcF f mK (λB15 F49=>?_) λB15 F51=>?_))
  ·refine RR (Y f 1 λ_ f=>Wt f N103 4 0 Sn λW75 N161 _ f=>Ye f 2 λ_ f=>wp_ret (eu ?_))
   have F50:=bw F49 F48
   refine bl (bl ?_)
   have N162:Hp w0 V13 ((Ent.row 31 6 (.slice none 0 0) ([]:List TG0).length [])::(Ent.row 5 1 (.slice Z27 G5.2.2.1.length P23) G5.2.2.1.length L22)::(Ent.row 31 6 (.slice Z28 G5.2.2.2.1.length P24) G5.2.2.2.1.length L23)::(Ent.obj Q3 (.stringIter (mkS d0) G5.2.2.2.2))::(Ent.obj Q2 (.cells #[.pointer Z26,.slice Z27 G5.2.2.1.length P23] 142 (0,0)))::(Ent.obj Q1 (.cells #[.slice none 0 0] 29 (0,0)))::H) W75:=N161.nilRow 31 6
   have D30:ae V13 (([]:List TG0).map aA) []:=rfl
   refine pn f rfl (Rv.o1 Sn f N162 5 0) (Rv.slot (v:=iL G5.2.1) f kr) (Rv.slot (v:=iL 130) f kr) ?_
   cases sI F50
   have N167:=N162.pl [5,5,5,5,5]
   exact⟨_,rfl,_,_,J13,(N167.dropN 5).kr,⟨none,0,[],rfl,rfl,D30⟩⟩
  refine RR (Ye f 2 λ_ f=>RcF f F51 (λB16 F52=>?_) λB16 F54=>?_)
  ·refine ay ?_
   obtain⟨X16,l12,F53⟩:=bS F52
   have N169:=N103.pl [3]
   refine Ch f N169 (eQ n _ Q2 Z26 hb_9 G5.2.2.1 Z27 P23 L22 D27 (36:Int) X16 l12) λ_ V14 E_7 W76 J14 N168 q_8 _ f=>?_
   obtain⟨Z29,Z30,P25,L24,rfl,rfl,hb_10,D31⟩:=q_8
   refine ag rfl (ec ?_)
   have N175:=N168.pl [4,4,4,3,4]
   refine az ?_
   exact⟨_,(sI F53).symm,_,J14,Z29,Z30,P25,L24,hb_10,D31,f.kp,N175.kr⟩
  refine wp_skip (ec ?_)
  have N180:=N103.pl [4,3,3,4,4]
  refine az ?_
  exact⟨_,(sI F54).symm,_,mL,Z26,Z27,P23,L22,hb_9,D27,f.kp,N180.kr⟩
 rintro a_114 W77 ⟨G6,rfl,V15,J15,Z31,Z32,P26,L25,hb_11,D32,f,N170⟩
 dsimp only[Hp.en] at N170
 refine az (RR (Y f 1 λ_ f=>?_))
 obtain⟨X17,l13,F55⟩:=bS F48
 have N185:=N170.pl [2,4,2,3]
 refine Ch f N185 (qe n _ hG.mo Q2 Z31 hb_11 G6 Z32 P26 L25 D32 Q1 G5.t3.1 Z28 P24 L23 D28.mo X17 l13) λ_ V16 E_8 W78 J16 N181 q_9 _ f=>?_
 obtain⟨Z33,Z34,P27,L26,Z35,P28,L27,rfl,rfl,hb_12,D33,D34⟩:=q_9
 refine eT (RR (Z f (XO N181 2) λ_ f=>Wt f N181 2 0 (sL Z35 X17.2 P28) λW79 N186 _ f=>Ye f 2 λ_ f=>wp_ret (pn f rfl (Rv.o1 (sL Z35 X17.2 P28) f N186 2 0) (Rv.slot (v:=iL 0) f kr) (Rv.slot (v:=iL 0) f kr) ?_)))
 cases sI F55
 have N191:=N186.pl [3,4,4,4,4]
 exact⟨_,rfl,_,_,mL,(N191.dropN 4).kr,⟨Z35,P28,L27,rfl,rfl,D34⟩⟩
def lE (n:Nat) (d0:Bs):Option (TG0×Bool):=
 (lq n d0).bind λX1=>
 bif(decide (X1<0)) then
  ((gt n d0).bind λX2=>
  some (((⟨(3:Int),([]:Bs),(0:Int),d0,([]:Bs),([]:List TG0)⟩:TG0),(X2))))
 else
  aL (0≤X1∧X1≤d0.length)<|
  aL (inR .i64 (X1+1))<|
  aL (0≤(X1+1)∧(X1+1)≤d0.length)<|
  aL (0≤X1∧X1≤d0.length)<|
  (gt n (d0.take X1.toNat)).bind λX3=>
  bif X3 then
   (aL (inR .i64 (X1+1))<|
   aL (0≤(X1+1)∧(X1+1)≤d0.length)<|
   (jS n (d0.drop (X1+1).toNat)).bind λX4=>
   some (((⟨(4:Int),([]:Bs),(0:Int),d0.take X1.toNat,d0.drop (X1+1).toNat,([]:List TG0)⟩:TG0),(X4))))
  else
   some (((⟨(4:Int),([]:Bs),(0:Int),d0.take X1.toNat,d0.drop (X1+1).toNat,([]:List TG0)⟩:TG0),(false)))
theorem sV (n:Nat) (M:Mem) (d0:Bs) (r:TG0×Bool) (hF:lE n d0=some r):Ok Tryz.prog M 130 [S d0] (λM' v=>∃ (c0:Lv),v=.tuple #[.agg c0.toArray,bO r.2]∧Rep M' (aA r.1) c0):=by
 unfold lE at hF
 intro M1 hM0 w0 H w p0
 refine Re 32 Tryz.func130 rfl λa0 f0=>RR (Y4 f0 p0 (.cells #[iB 0,S [],iL 0,S [],S [],Sn] 31 (0,0)) λQ1 W1 N1 _ f=>Ye f 1 λ_ f=>RR (Y f 1 λ_ f=>?_))
 obtain⟨X1,l1,F1⟩:=bS hF
 refine Y9 f N1 (pY n _ d0 X1 l1) λW2 N2 _ f=>Ye f 1 λ_ f=>ah (RR (Ye f 2 λ_ f=>RcF f F1 (λB1 F2=>?_) λB1 F4=>?_))
 ·refine RR (Y f 3 λ_ f=>?_)
  obtain⟨X2,l2,F3⟩:=bS F2
  refine Y9 f N2 (gN n _ d0 X2 l2) λW3 N3 _ f=>Wu f N3 0 0 [iB 3,S [],iL 0,S d0,S [],Sn] λW4 N4 _ f=>Ye f 1 λ_ f=>wp_ret (bl (nn f rfl (Rv.oN [iB 3,S [],iL 0,S d0,S [],Sn] f N4 0 0) (Rv.slot (v:=bO X2) f kr) ?_))
  cases sI F3
  exact⟨_,rfl,M1,mL,(N4.dropN 1).kr,⟨[iB 3,S [],iL 0,S d0,S [],Sn],rfl,(TG0.shutx Sli.nil)⟩⟩
 refine St (ah (cu 1 [(0,true),(1,true),(2,true),(3,true),(4,true),(5,true),(6,true),(7,true),(8,true),(9,true),(10,true),(11,true),(12,true),(13,true),(14,true),(15,true),(16,true),(17,true),(18,true),(19,false),(20,true)] N2 (Y0 default f 2 λ_ f=>?_)))
 obtain⟨O1,F5⟩:=nS F4
 refine bG (v:=S (d0.take X1.toNat)) f kr kr rfl rfl (λ_ pq=>X_strTo rfl (l:=d0) (k':=.i64) (b:=X1) kr kr kr O1.1 O1.2) λ_ f=>Y0 default f 2 λ_ f=>?_
 obtain⟨O2,F6⟩:=nS F5
 refine bG (v:=iL (IntKind.wrap .i64 (X1+1))) f kr kr rfl rfl (λ_ pq=>by kernel_rfl) λ_ f=>?_
 have f:=f.st 18 (iW O2)
 obtain⟨O3,F7⟩:=nS F6
 refine bG (v:=S (d0.drop (X1+1).toNat)) f kr kr rfl rfl (λ_ pq=>oh rfl (l:=d0) (k:=.i64) (a:=X1+1) kr kr kr O3.1 O3.2) λ_ f=>Y0 default f 3 λ_ f=>?_
 obtain⟨O4,F8⟩:=nS F7
 refine bG (v:=S (d0.take X1.toNat)) f kr kr rfl rfl (λ_ pq=>X_strTo rfl (l:=d0) (k':=.i64) (b:=X1) kr kr kr O4.1 O4.2) λ_ f=>?_
 obtain⟨X3,l3,F9⟩:=bS F8
 refine eR (v:=bO X3) f kr kr rfl rfl (λ_=>by kernel_rfl) (gN n _ (d0.take X1.toNat) X3 l3) λ_ f=>Y0 default f 1 λ_ f=>?_
 rcases cE F9 with⟨B2,F10⟩|⟨B2,F14⟩
 ·have f:=f.st 25 (cB B2)
  refine Y0 default f 2 λ_ f=>?_
  obtain⟨O5,F11⟩:=nS F10
  refine bG (v:=iL (IntKind.wrap .i64 (X1+1))) f kr kr rfl rfl (λ_ pq=>by kernel_rfl) λ_ f=>?_
  have f:=f.st 28 (iW O5)
  obtain⟨O6,F12⟩:=nS F11
  refine bG (v:=S (d0.drop (X1+1).toNat)) f kr kr rfl rfl (λ_ pq=>oh rfl (l:=d0) (k:=.i64) (a:=X1+1) kr kr kr O6.1 O6.2) λ_ f=>?_
  obtain⟨X4,l4,F13⟩:=bS F12
  refine eR (v:=bO X4) f kr kr rfl rfl (λ_=>by kernel_rfl) (oI n _ (d0.drop (X1+1).toNat) X4 l4) λ_ f=>Y0 default f 1 λ_ f=>bI λW7 N7=>Wu f N7 0 0 [iB 4,S [],iL 0,S (d0.take X1.toNat),S (d0.drop (X1+1).toNat),Sn] λW8 N8 _ f=>ag rfl (bL 1 mL N8 (Y0 default f 1 λ_ f=>dx rfl λW9 N9=>az (wp_ret (nn f rfl (Rv.oN [iB 4,S [],iL 0,S (d0.take X1.toNat),S (d0.drop (X1+1).toNat),Sn] f N9 0 0) (Rv.slot (v:=bO X4) f kr) ?_))))
  cases sI F13
  exact⟨_,rfl,M1,mL,(N9.dropN 1).kr,⟨[iB 4,S [],iL 0,S (d0.take X1.toNat),S (d0.drop (X1+1).toNat),Sn],rfl,(TG0.shutx Sli.nil)⟩⟩
 have f:=f.st 25 (cB B2)
 refine Y0 default f 6 λ_ f=>bI λW10 N10=>Wu f N10 0 0 [iB 4,S [],iL 0,S (d0.take X1.toNat),S (d0.drop (X1+1).toNat),Sn] λW11 N11 _ f=>ag rfl (bL 1 mL N11 (Y0 default f 1 λ_ f=>dx rfl λW12 N12=>az (wp_ret (nn f rfl (Rv.oN [iB 4,S [],iL 0,S (d0.take X1.toNat),S (d0.drop (X1+1).toNat),Sn] f N12 0 0) (Rv.slot (v:=bO false) f kr) ?_))))
 cases sI F14
 exact⟨_,rfl,M1,mL,(N12.dropN 1).kr,⟨[iB 4,S [],iL 0,S (d0.take X1.toNat),S (d0.drop (X1+1).toNat),Sn],rfl,(TG0.shutx Sli.nil)⟩⟩
def kh (n:Nat) (d0:Bs) (K1:List TG0×Bs×Int):Option (Lp (List TG0×Bs×Int) (Sum Int (List TG0×Bs))):=
    bif(decide (K1.2.2<(d0.length:Int))) then
     ((((aB d0 K1.2.2).bind λdW=>
       bif(!(decide (((dW).toNat:Int)=36))) then
        (some ((true)))
       else
        aL (inR .i64 (K1.2.2+1))<|
        bif(decide ((d0.length:Int)≤(K1.2.2+1))) then
         (some ((true)))
        else
         aL (inR .i64 (K1.2.2+1))<|
         (aB d0 (K1.2.2+1)).bind λie=>
         some ((!(decide (((ie).toNat:Int)=123)))):Option Bool)).bind λG1=>
     bif G1 then
      ((aB d0 K1.2.2).bind λlQ=>
      aL ((K1.2.1.length+1)*1≤140737488355328)<|
      aL (inR .i64 (K1.2.2+1))<|
      some (.nx (K1.1,K1.2.1++[lQ],K1.2.2+1)))
     else
      aL (inR .i64 (K1.2.2+2))<|
      (lF n d0 (K1.2.2+2)).bind λX2=>
      bif(decide (X2<0)) then
       (some (.br (.inl K1.2.2)))
      else
       aL (inR .i64 (K1.2.2+2))<|
       (aB d0 (K1.2.2+2)).bind λrJ=>
       bif(decide (((rJ).toNat:Int)=33)) then
        (aL ((K1.2.1.length+ [36,123].length)*1≤140737488355328)<|
        aL (inR .i64 (K1.2.2+3))<|
        aL (inR .i64 (X2+1))<|
        aL (0≤(K1.2.2+3)∧(K1.2.2+3)≤(X2+1)∧(X2+1)≤d0.length)<|
        aL (((K1.2.1++[36,123]).length+ ((d0.take (X2+1).toNat).drop (K1.2.2+3).toNat).length)*1≤140737488355328)<|
        aL (inR .i64 (X2+1))<|
        some (.nx (K1.1,(K1.2.1++[36,123])++((d0.take (X2+1).toNat).drop (K1.2.2+3).toNat),X2+1)))
       else
        aL (inR .i64 (K1.2.2+2))<|
        aL (0≤(K1.2.2+2)∧(K1.2.2+2)≤X2∧X2≤d0.length)<|
        (lE n ((d0.take X2.toNat).drop (K1.2.2+2).toNat)).bind λX3=>
        bif !X3.2 then
         (some (.br (.inl K1.2.2)))
        else
         ((bif(decide ((0:Int)<((K1.2.1.length:Nat):Int))) then
          (aL ((K1.1.length+1)*88≤140737488355328)<|
          some ((K1.1++[(⟨(0:Int),K1.2.1,(0:Int),([]:Bs),([]:Bs),([]:List TG0)⟩:TG0)],([]:Bs))))
           else
            some ((K1.1,K1.2.1)):Option (List TG0×Bs))).bind λG2=>
         aL ((G2.1.length+1)*88≤140737488355328)<|
         aL (inR .i64 (X2+1))<|
         some (.nx (G2.1++[X3.1],G2.2,X2+1)))
    else
     some (.br (.inr (K1.1,K1.2.1)))
def my (n:Nat) (d0:Bs):Option (List TG0×Int×Int):=
 (hP n d0).bind λX1=>
 bif !X1 then
  (some ((([]:List TG0),(0:Int),(10:Int))))
 else
  bif(decide ((4096:Int)<(d0.length:Int))) then
   (some ((([]:List TG0),(0:Int),(3:Int))))
  else
   (au (kh n d0) n (([]:List TG0),([]:Bs),(0:Int))).bind λQ1=>
   (match Q1 with
   |.inl G3=>some ((([]:List TG0),G3,(130:Int)))
   |.inr G4=>bif(decide ((0:Int)<((G4.2.length:Nat):Int))) then
    (aL ((G4.1.length+1)*88≤140737488355328)<|
    some ((G4.1++[(⟨(0:Int),G4.2,(0:Int),([]:Bs),([]:Bs),([]:List TG0)⟩:TG0)],(0:Int),(0:Int))))
    else
     some ((G4.1,(0:Int),(0:Int))))
set_option maxRecDepth 20000 in
theorem ref12_Lex_ok (n:Nat) (M:Mem) (d0:Bs) (r:List TG0×Int×Int) (hF:my n d0=some r):OkH Tryz.prog M [] 91 [S d0] (λM' E' v=>∃ (A0:Oa) (k0:Nat) (s0:Lv),v=.tuple #[sL A0 r.1 k0,iL r.2.1,iL r.2.2]∧E'=[.row 31 6 (sL A0 r.1 k0) r.1.length s0]∧ae M' (r.1.map aA) s0):=by
 unfold my at hF
 intro M1 hM0 w0 H w p0
 refine Re 108 Tryz.func91 rfl λa0 f0=>RR (Ye f0 3 λ_ f=>ah (RR (Y f 1 λ_ f=>?_)))
 obtain⟨X1,l1,F1⟩:=bS hF
 refine Y9 f p0 (kf n _ d0 X1 l1) λW1 N1 _ f=>Ye f 1 λ_ f=>RcF f F1 (λB1 F2=>?_) λB1 F3=>?_
 ·refine RR (Ye f 3 λ_ f=>wp_ret (bl ?_))
  obtain⟨Z1,P1,H1,N2⟩:=N1.nilD 31 6 (TG0)
  have f:=f.st 2 (H1)
  have D1:ae M1 (([]:List TG0).map aA) []:=rfl
  refine rC f rfl (Lk 2 (sL Z1 ([]:List TG0) P1)) (Lk 3 (iL 0)) (Lk 4 (iL 10)) ?_
  cases sI F2
  exact⟨_,rfl,M1,_,mL,N2.kr,⟨Z1,P1,[],rfl,rfl,D1⟩⟩
 refine St (ah (RR (Ye f 3 λ_ f=>RcF f F3 (λB2 F4=>?_) λB2 F5=>?_)))
 ·refine RR (Ye f 3 λ_ f=>wp_ret (bl ?_))
  obtain⟨Z2,P2,H2,N3⟩:=N1.nilD 31 6 (TG0)
  have f:=f.st 2 (H2)
  have D2:ae M1 (([]:List TG0).map aA) []:=rfl
  refine rC f rfl (Lk 2 (sL Z2 ([]:List TG0) P2)) (Lk 3 (iL 0)) (Lk 4 (iL 3)) ?_
  cases sI F4
  exact⟨_,rfl,M1,_,mL,N3.kr,⟨Z2,P2,[],rfl,rfl,D2⟩⟩
 refine St (RR (Ye f 1 λ_ f=>RR (Ye f 1 λ_ f=>RR (Ye f 1 λ_ f=>ah (wp_block ?_)))))
 obtain⟨Z3,P3,H3,N4⟩:=N1.nilD 31 6 (TG0)
 have f:=f.st 5 (H3)
 have D3:ae M1 (([]:List TG0).map aA) []:=rfl
 obtain⟨Z4,P4,H4,N5⟩:=N4.nilD 5 1 (UInt8)
 have f:=f.st 6 (H4)
 have D4:ae M1 (([]:Bs).map embB) []:=rfl
 have N6:=N5.pl [1]
 obtain⟨Q1,ce,F6⟩:=bS F5
 refine wp_mono (Q:=λe a w=>(e=.ret∧(∃G3,Q1=.inl G3∧∃V5,M1.le V5∧Frm 108 [(2,Sn),(3,iL G3),(4,iL 130)] a∧Hp w0 V5 (H) w))∨(e=.exit 0∧(∃G4,Q1=.inr G4∧∃V6,M1.le V6∧∃Z16 P16 L10 Z17 P17 L11,ae V6 (G4.1.map aA) L10∧ae V6 (G4.2.map embB) L11∧Frm 108 [(5,sL Z16 G4.1 P16),(6,sL Z17 G4.2 P17)] a∧Hp w0 V6 ((rO 31 6 Z16 G4.1 P16 L10)::(rO 5 1 Z17 G4.2 P17 L11)::H) w))) (aZ (σ:=(List TG0×Bs×Int)×Oa×Nat×Lv×Oa×Nat×Lv) (λx=>match x with|(I1,K1,Z5,P5,L1,Z6,P6,L2)=>([(0,S d0),(5,sL Z5 K1.1 P5),(6,sL Z6 K1.2.1 P6),(7,iL K1.2.2)],((rO 31 6 Z5 K1.1 P5 L1)::(rO 5 1 Z6 K1.2.1 P6 L2)::H),λMM=>au (kh n d0) I1 K1=some Q1∧ae MM (K1.1.map aA) L1∧ae MM (K1.2.1.map embB) L2)) (n,(([]:List TG0),([]:Bs),(0:Int)),Z3,P3,[],Z4,P4,[]) (f.kp) N6.kr ⟨ce,D3,D4⟩ ?_) ?_
 ·rintro⟨I1,K1,Z5,P5,L1,Z6,P6,L2⟩ V1 _ W2 J1 gL f N7
  obtain⟨ci,D5,D6⟩:=gL
  obtain⟨I2,lT,rfl,bg,T1⟩:=aK ci
  unfold kh at bg
  refine ah (RR (Ye f 4 λ_ f=>RcF f bg (λB3 F7=>?_) λB3 F47=>?_))
  ·refine St (wp_block (ah (ah ?_)))
   obtain⟨eF,cL,F8⟩:=bS F7
   refine aW (λa_25 W3=>∃G1,eF=G1∧∃V2,V1.le V2∧Frm 108 ((38,bO G1)::kpL [0,5,6,7] f.fr) a_25∧Hp w0 V2 (N7.en) W3) ?_ ?_
   ·refine ay (Y f 2 λ_ f=>?_)
    obtain⟨dW,l2,F9⟩:=bS cL
    refine Z f (dN rfl (l:=d0) (k:=.i64) (i:=K1.2.2) kr kr kr (eW l2) (eV l2)) λ_ f=>?_
    have f:=Frm.set f 23 (v:=.int .u8 ((d0.getD K1.2.2.toNat 0).toNat:Int)) (v':=.int .u8 ((dW).toNat:Int)) kr (congrArg (λc:UInt8=>Value.int .u8 ((c.toNat:Nat):Int)) (eG l2))
    refine Y f 2 λ_ f=>?_
    rcases cE F9 with⟨B4,F10⟩|⟨B4,F11⟩
    ·have f:=f.st 25 (cB B4)
     refine Ye f 13 λ_ f=>?_
     exact⟨_,(sI F10).symm,_,mL,f.kp,N7.kr⟩
    have f:=f.st 25 (cB B4)
    refine Y f 1 λ_ f=>?_
    obtain⟨O1,F12⟩:=nS F11
    refine Y f 1 λ_ f=>?_
    have f:=f.st 27 (iW O1)
    refine Y f 5 λ_ f=>?_
    rcases cE F12 with⟨B5,F13⟩|⟨B5,F14⟩
    ·have f:=f.st 32 (cB B5)
     refine Ye f 6 λ_ f=>?_
     exact⟨_,(sI F13).symm,_,mL,f.kp,N7.kr⟩
    have f:=f.st 32 (cB B5)
    refine Y f 2 λ_ f=>?_
    obtain⟨O2,F15⟩:=nS F14
    refine Y f 1 λ_ f=>?_
    have f:=f.st 35 (iW O2)
    obtain⟨ie,l3,F16⟩:=bS F15
    refine Z f (dN rfl (l:=d0) (k:=.i64) (i:=K1.2.2+1) kr kr kr (eW l3) (eV l3)) λ_ f=>?_
    have f:=Frm.set f 36 (v:=.int .u8 ((d0.getD (K1.2.2+1).toNat 0).toNat:Int)) (v':=.int .u8 ((ie).toNat:Int)) kr (congrArg (λc:UInt8=>Value.int .u8 ((c.toNat:Nat):Int)) (eG l3))
    refine Ye f 2 λ_ f=>?_
    exact⟨_,(sI F16).symm,_,mL,f.kp,N7.kr⟩
   rintro a_25 W3 ⟨G1,eS,V2,J2,f,N8⟩
   dsimp only[Hp.en] at N8
   subst eF
   refine az (RcF f F8 (λB6 F17=>?_) λB6 F21=>?_)
   ·refine RR (Y f 3 λ_ f=>?_)
    obtain⟨lQ,l4,F18⟩:=bS F17
    refine Z f (dN rfl (l:=d0) (k:=.i64) (i:=K1.2.2) kr kr kr (eW l4) (eV l4)) λ_ f=>?_
    have f:=Frm.set f 42 (v:=.int .u8 ((d0.getD K1.2.2.toNat 0).toNat:Int)) (v':=.int .u8 ((lQ).toNat:Int)) kr (congrArg (λc:UInt8=>Value.int .u8 ((c.toNat:Nat):Int)) (eG l4))
    refine aE (k:=1) (c:=1) f N8 (.cells #[.int .u8 ((lQ).toNat:Int)] 5 (0,0)) kr (λ_=>by kernel_rfl) λQ2 W4 N9 _ f=>?_
    have N10:=N9.pl [2]
    obtain⟨O3,F19⟩:=nS F18
    refine jW (z:=.int .u8 0) (f:=embB) (xs:=K1.2.1) (ys:=[lQ]) (news:=[.int .u8 ((lQ).toNat:Int)]) (ad:=⟨Q2,0,none⟩) (m:=1) (c:=1) f (N10.toRow 0 5 1 Z6 P6 D6.mo) D6.mo (by exact⟨_,_,rfl,rfl,rfl⟩) kr kr rfl rfl rfl kr kr kr kr rfl (ownK N10 1) (by exact O3) (by have hg_:=O3;first|omega|(simp only[List.length_cons,List.length_nil] at*;omega)) λZ7 P7 L3 W5 N11 D7 _ f=>?_
    have N12:=N11.pl [1]
    have N13:=N12.drop
    refine Ye f 1 λ_ f=>RR (Y f 1 λ_ f=>?_)
    obtain⟨O4,F20⟩:=nS F19
    refine Y f 1 λ_ f=>?_
    have f:=f.st 46 (iW O4)
    refine Ye f 1 λ_ f=>wp_exit (dJ (jV ?_))
    have N35:=N13.pl [1]
    refine az ?_
    cases sI F20
    exact⟨⟨_,_,Z5,P5,L1,Z7,P7,L3⟩,Nat.lt_succ_self _,_,mL,⟨T1,D5.mo,D7⟩,f.kp,N35.kr⟩
   refine St (RR (Y f 2 λ_ f=>?_))
   obtain⟨O5,F22⟩:=nS F21
   refine Y f 1 λ_ f=>?_
   have f:=f.st 49 (iW O5)
   obtain⟨X2,l5,F23⟩:=bS F22
   refine Y9 f N8 (sW n _ d0 (K1.2.2+2) X2 l5) λW6 N14 _ f=>Ye f 1 λ_ f=>ah (RR (Ye f 2 λ_ f=>RcF f F23 (λB7 F24=>?_) λB7 F25=>?_))
   ·refine RR (Ye f 4 λ_ f=>wp_ret (bl (eu (bl ?_))))
    cases sI F24
    exact .inl ⟨rfl,_,(sI T1).symm,_,mL,f.kp,(N14.dropN 2).kr⟩
   refine St (ah (RR (Y f 2 λ_ f=>?_)))
   obtain⟨O6,F26⟩:=nS F25
   refine Y f 1 λ_ f=>?_
   have f:=f.st 56 (iW O6)
   obtain⟨rJ,l6,F27⟩:=bS F26
   refine Z f (dN rfl (l:=d0) (k:=.i64) (i:=K1.2.2+2) kr kr kr (eW l6) (eV l6)) λ_ f=>?_
   have f:=Frm.set f 57 (v:=.int .u8 ((d0.getD (K1.2.2+2).toNat 0).toNat:Int)) (v':=.int .u8 ((rJ).toNat:Int)) kr (congrArg (λc:UInt8=>Value.int .u8 ((c.toNat:Nat):Int)) (eG l6))
   refine Ye f 1 λ_ f=>RcF f F27 (λB8 F28=>?_) λB8 F35=>?_
   ·refine RR (Y f 1 λ_ f=>?_)
    have N15:=N14.pl [1]
    obtain⟨O7,F29⟩:=nS F28
    refine qj (z:=.int .u8 0) (xs:=K1.2.1) (l:=[36,123]) f N15 D6.mo kr kr rfl rfl rfl kr kr kr kr kr O7 (by omega) λZ8 P8 L4 W7 N16 D8 _ f=>Ye f 1 λ_ f=>RR (Y f 3 λ_ f=>?_)
    obtain⟨O8,F30⟩:=nS F29
    refine Y f 1 λ_ f=>?_
    have f:=f.st 64 (iW O8)
    refine Y f 1 λ_ f=>?_
    obtain⟨O9,F31⟩:=nS F30
    refine Y f 1 λ_ f=>?_
    have f:=f.st 66 (iW O9)
    obtain⟨O10,F32⟩:=nS F31
    refine Z (v:=S ((d0.take (X2+1).toNat).drop (K1.2.2+3).toNat)) f (oR rfl (l:=d0) (k:=.i64) (k':=.i64) (a:=K1.2.2+3) (b:=X2+1) kr kr kr kr O10.1 O10.2.1 O10.2.2) λ_ f=>?_
    obtain⟨O11,F33⟩:=nS F32
    refine qj (z:=.int .u8 0) (xs:=K1.2.1++[36,123]) (l:=(d0.take (X2+1).toNat).drop (K1.2.2+3).toNat) f N16 D8 kr kr rfl rfl rfl kr kr kr kr kr O11 (by omega) λZ9 P9 L5 W8 N17 D9 _ f=>Ye f 1 λ_ f=>RR (Y f 1 λ_ f=>?_)
    obtain⟨O12,F34⟩:=nS F33
    refine Y f 1 λ_ f=>?_
    have f:=f.st 70 (iW O12)
    refine Ye f 1 λ_ f=>wp_exit (dJ (jV ?_))
    have N36:=N17.pl [1]
    refine az ?_
    cases sI F34
    exact⟨⟨_,_,Z5,P5,L1,Z9,P9,L5⟩,Nat.lt_succ_self _,_,mL,⟨T1,D5.mo,D9⟩,f.kp,N36.kr⟩
   refine St (RR (Y f 2 λ_ f=>?_))
   obtain⟨O13,F36⟩:=nS F35
   refine Y f 1 λ_ f=>?_
   have f:=f.st 74 (iW O13)
   refine Y f 1 λ_ f=>?_
   obtain⟨O14,F37⟩:=nS F36
   refine Z (v:=S ((d0.take X2.toNat).drop (K1.2.2+2).toNat)) f (oR rfl (l:=d0) (k:=.i64) (k':=.i64) (a:=K1.2.2+2) (b:=X2) kr kr kr kr O14.1 O14.2.1 O14.2.2) λ_ f=>?_
   obtain⟨X3,l7,F38⟩:=bS F37
   refine Y8 f N14 (sV n _ ((d0.take X2.toNat).drop (K1.2.2+2).toNat) X3 l7) λ_ V3 W9 J3 N18 ef _ f=>?_
   obtain⟨c_5,rfl,D10⟩:=ef
   obtain⟨Z10,P10,rfl,B9⟩:=TG0.opn D10
   refine Y f 3 λ_ f=>Y4 f N18 (.cells #[iB 0,S [],iL 0,S [],S [],Sn] 31 (0,0)) λQ3 W10 N19 _ f=>Wu f N19 0 0 (lTG0 X3.1 Z10 P10) λW11 N20 _ f=>Ye f 1 λ_ f=>ah (RR (Ye f 2 λ_ f=>RcF f F38 (λB10 F39=>?_) λB10 F40=>?_))
   ·refine RR (Ye f 4 λ_ f=>wp_ret (bl (eu (bl ?_))))
    cases sI F39
    exact .inl ⟨rfl,_,(sI T1).symm,_,mL,f.kp,(N20.dropN 3).kr⟩
   refine St (ah (RR (Ye f 3 λ_ f=>?_)))
   obtain⟨lb,iJ,F41⟩:=bS F40
   refine aW (λa_76 W14=>∃G2,lb=G2∧∃V4,V3.le V4∧∃Z12 P12 L7 Z13 P13 L8,ae V4 (G2.1.map aA) L7∧ae V4 (G2.2.map embB) L8∧Frm 108 ((5,sL Z12 G2.1 P12)::(6,sL Z13 G2.2 P13)::kpL [0,8,9] f.fr) a_76∧Hp w0 V4 ((rO 31 6 Z12 G2.1 P12 L7)::(rO 5 1 Z13 G2.2 P13 L8)::selE [0] 3 N20.en) W14) ?_ ?_
   ·refine RcF f iJ (λB11 F42=>?_) λB11 F44=>?_
    ·refine RR (Y f 2 λ_ f=>?_)
     have he_1:=ae.bytes_eq (ae.mono (J2.trans J3) _ _ D6)
     refine Z (v:=S K1.2.1) f (lh rfl (l:=K1.2.1) (v:=sL Z6 K1.2.1 P6) kr (e:=5) kr kr kr (by have h0:=N20.rowAt 2 rfl;rw[he_1] at h0;exact h0)) λ_ f=>Y f 1 λ_ f=>aE (k:=1) (c:=1) f N20 (.cells #[iB 0,S K1.2.1,iL 0,S [],S [],Sn] 31 (0,0)) kr (λ_=>by kernel_rfl) λQ4 W12 N21 _ f=>?_
     obtain⟨O15,F43⟩:=nS F42
     refine dM (⟨(0:Int),K1.2.1,(0:Int),([]:Bs),([]:Bs),([]:List TG0)⟩:TG0) 0 f (N21.toRow 2 31 6 Z5 P5 D5.mo) D5.mo (TG0.shutx Sli.nil) O15 λZ11 P11 L6 W13 N22 D11 _ f=>Ye f 1 λ_ f=>ay (Y f 1 λ_ f=>ag rfl ?_)
     obtain⟨Z14,P14,H5,N24⟩:=N22.nilD 5 1 (UInt8)
     have f:=f.st 6 (H5)
     have D14:ae V3 (([]:Bs).map embB) []:=rfl
     have N28:=N24.pl [2,1,2,3]
     refine az ?_
     exact⟨_,(sI F43).symm,_,mL,Z11,P11,L6,Z14,P14,_,D11,D14,f.kp,(N28.dropN 1).kr⟩
    refine wp_skip ?_
    have N30:=N20.pl [2,2]
    refine az ?_
    exact⟨_,(sI F44).symm,_,mL,Z5,P5,L1,Z6,P6,L2,D5.mo,D6.mo,f.kp,N30.kr⟩
   rintro a_76 W14 ⟨G2,hZ,V4,J4,Z12,P12,L7,Z13,P13,L8,D12,D13,f,N23⟩
   dsimp only[Hp.en] at N23
   subst lb
   refine az (RR (Y f 1 λ_ f=>Z f (XO N23 2) λ_ f=>aE (k:=1) (c:=1) f N23 (.cells (aTG0 X3.1 Z10 P10) 31 (0,0)) kr (λ_=>by kernel_rfl) λQ5 W15 N31 _ f=>?_))
   obtain⟨O16,F45⟩:=nS F41
   refine dM X3.1 0 f (N31.toRow 1 31 6 Z12 P12 D12) D12 (TG0.shutx B9.mo) O16 λZ15 P15 L9 W16 N32 D15 _ f=>Ye f 1 λ_ f=>ay (Y f 1 λ_ f=>?_)
   obtain⟨O17,F46⟩:=nS F45
   refine Y f 1 λ_ f=>?_
   have f:=f.st 97 (iW O17)
   refine Y f 1 λ_ f=>ag rfl (ec ?_)
   have N39:=N32.pl [1,1,2]
   refine az ?_
   cases sI F46
   exact⟨⟨_,_,Z15,P15,L9,Z13,P13,L8⟩,Nat.lt_succ_self _,_,mL,⟨T1,D15,D13⟩,f.kp,(N39.dropN 1).kr⟩
  refine wp_exit (dJ (dJ ?_))
  cases sI F47
  exact .inr ⟨rfl,_,(sI T1).symm,_,J1,Z5,P5,L1,Z6,P6,L2,D5,D6,f.kp,N7.kr⟩
 rintro _ _ W19 (⟨rfl,G3,rfl,V5,J5,f,N33⟩|⟨rfl,G4,rfl,V6,J6,Z16,P16,L10,Z17,P17,L11,D16,D17,f,N34⟩)
 ·refine eu (bl ?_)
  obtain⟨Z18,P18,H6,N40⟩:=N33.nilD 31 6 (TG0)
  have f:=f.st 2 (H6)
  have D18:ae V5 (([]:List TG0).map aA) []:=rfl
  refine rC f rfl (Lk 2 (sL Z18 ([]:List TG0) P18)) (Lk 3 (iL G3)) (Lk 4 (iL 130)) ?_
  cases sI F6
  exact⟨_,rfl,_,_,J5,N40.kr,⟨Z18,P18,[],rfl,rfl,D18⟩⟩
 refine jV (az (ah (RR (Ye f 3 λ_ f=>RcF f F6 (λB12 F48=>?_) λB12 F50=>?_))))
 ·refine ay (Y f 2 λ_ f=>?_)
  have he_2:=ae.bytes_eq D17
  refine Z (v:=S G4.2) f (lh rfl (l:=G4.2) (v:=sL Z17 G4.2 P17) kr (e:=5) kr kr kr (by have h0:=N34.rowAt 1 rfl;rw[he_2] at h0;exact h0)) λ_ f=>Y f 1 λ_ f=>aE (k:=1) (c:=1) f N34 (.cells #[iB 0,S G4.2,iL 0,S [],S [],Sn] 31 (0,0)) kr (λ_=>by kernel_rfl) λQ6 W20 N41 _ f=>?_
  obtain⟨O18,F49⟩:=nS F48
  refine dM (⟨(0:Int),G4.2,(0:Int),([]:Bs),([]:Bs),([]:List TG0)⟩:TG0) 0 f (N41.toRow 1 31 6 Z16 P16 D16) D16 (TG0.shutx Sli.nil) O18 λZ19 P19 L12 W21 N42 D19 _ f=>Ye f 1 λ_ f=>RR (Ye f 4 λ_ f=>wp_ret (rC f rfl (Lk 2 (sL Z19 (G4.1++[(⟨(0:Int),G4.2,(0:Int),([]:Bs),([]:Bs),([]:List TG0)⟩:TG0)]) P19)) (Lk 3 (iL 0)) (Lk 4 (iL 0)) ?_))
  cases sI F49
  have N43:=N42.pl [1]
  exact⟨_,rfl,_,_,J6,(N43.dropN 1).kr,⟨Z19,P19,L12,rfl,rfl,D19⟩⟩
 refine St (RR (Ye f 4 λ_ f=>wp_ret (rC f rfl (Lk 2 (sL Z16 G4.1 P16)) (Lk 3 (iL 0)) (Lk 4 (iL 0)) ?_)))
 cases sI F50
 have N44:=N34.pl [1]
 exact⟨_,rfl,_,_,J6,(N44.dropN 1).kr,⟨Z16,P16,L10,rfl,rfl,D16⟩⟩
end Go.Proofs.YtkopljikappieaaGreatDoor
end
section
section
namespace Go.Proofs.YtkopljikappieaaGreatDoor
open Go Go.Vc
def isL (c:UInt8):Bool:=(decide (97≤c.toNat)&&decide (c.toNat≤122))|| (decide (65≤c.toNat)&&decide (c.toNat≤90))
def isD (c:UInt8):Bool:=decide (48≤c.toNat)&&decide (c.toNat≤57)
def nameS (s:Bs):Bool:=decide (1≤s.length)&&decide (s.length≤32)&&isL (s.getD 0 0)&&s.all λc=>isL c||isD c
theorem byte_lt (c:UInt8):c.toNat<256:=c.toNat_lt
theorem tD (n:Nat) (c:UInt8):jq n (c.toNat:Int)=some (isL c):=by
 unfold jq isL
 by_cases h1:97≤c.toNat<;>by_cases h2:c.toNat≤122<;>by_cases h3:65≤c.toNat<;>by_cases h4:c.toNat≤90<;>
  simp[h1,h2,h3,h4,show(97:Int)≤(c.toNat:Int)↔97≤c.toNat by omega,show(c.toNat:Int)≤122↔c.toNat≤122 by omega,show(65:Int)≤(c.toNat:Int)↔65≤c.toNat by omega,show(c.toNat:Int)≤90↔c.toNat≤90 by omega]<;>omega
theorem digit_eq (n:Nat) (c:UInt8):kR n (c.toNat:Int)=some (isD c):=by
 unfold kR isD
 by_cases h1:48≤c.toNat<;>by_cases h2:c.toNat≤57<;>
  simp[h1,h2,show(48:Int)≤(c.toNat:Int)↔48≤c.toNat by omega,show(c.toNat:Int)≤57↔c.toNat≤57 by omega]
theorem kQ {n:Nat} {s:Bs} (hn:s.length<n) (hs:s.length<1000000):gt n s=some (nameS s):=by
 unfold gt
 by_cases h1: (s.length:Int)<1
 ·rw[dT h1,cT,bnd,cT]
  have: ¬1≤s.length:=by omega
  simp[nameS,this]
 rw[dF h1,cF]
 by_cases h2: (32:Int)<(s.length:Int)
 ·rw[dT h2,cT,bnd,cT]
  have: ¬s.length≤32:=by omega
  simp[nameS,this]
 rw[dF h2,cF,getI_in (i:=0) 0 (by omega) (by omega),bnd,tD,bnd,bnd,Int.toNat_zero]
 have e1:1≤s.length:=by omega
 have e2:s.length≤32:=by omega
 cases hl:isL (s.getD 0 0) with
 |false=>
  rw[nF,cT]
  simp[nameS,hl,-List.getD_eq_getElem?_getD]
 |true=>
  rw[nT,cF]
  have hloop:=pL (n:=n) (step:=iq n s) (λk=> !(isL (s.getD k 0)||isD (s.getD k 0))) s.length (.inl ()) (.inr ()) (λk hk=>by
   unfold iq
   rw[dT (by omega: (k:Int)<(s.length:Int)),cT,dQ 0 hk,bnd,tD,bnd]
   cases isL (s.getD k 0) with
   |true=>
    rw[nT,cF,aI (by omega) (by omega)]
    simp
   |false=>
    rw[nF,cT,bnd,digit_eq,bnd]
    cases isD (s.getD k 0) with
    |true=>
     rw[nT,cF,aI (by omega) (by omega)]
     simp
    |false=>simp) (by
   unfold iq
   rw[dF (by omega),cF]) hn
  rw[hloop,bnd,qk 0 (λc=> !(isL c||isD c)) s]
  have e3: (s.any λc=> !(isL c||isD c))= !(s.all λc=>isL c||isD c):=by
   rw[List.not_all_eq_any_not]
  rw[e3]
  cases hq: (s.all λc=>isL c||isD c)<;>simp[nameS,hl,hq,e1,e2,-List.getD_eq_getElem?_getD]
theorem or32 (c:UInt8):bOr .u8 (c.toNat:Int) 32=((c|||32).toNat:Int):=by
 have h:=byte_lt c
 have h2:c.toNat|||32<256:=Nat.or_lt_two_pow (n:=8) h (by decide)
 have e:bOr .u8 (c.toNat:Int) 32=IntKind.wrap .u8 (((c|||32).toNat:Nat):Int):=by
  unfold bOr
  congr 1
  have e2: (BitVec.ofInt IntKind.u8.bits (c.toNat:Int))=BitVec.ofNat 8 c.toNat:=by
   show BitVec.ofInt 8 _=_
   simp
  rw[e2]
  show(((BitVec.ofNat 8 c.toNat|||BitVec.ofInt 8 32).toNat:Nat):Int)=_
  simp
 rw[e,qJ _ (by simp) _]
theorem low_all: ((List.range 256).all λm=>(decide (97≤(m|||32))&&decide ((m|||32)≤122))== ((decide (97≤m)&&decide (m≤122))|| (decide (65≤m)&&decide (m≤90))))=true:=by kernel_rfl
theorem low_L (c:UInt8): (decide (97≤(c|||32).toNat)&&decide ((c|||32).toNat≤122))=isL c:=by
 have h:=List.all_eq_true.1 low_all c.toNat (List.mem_range.2 (byte_lt c))
 have e: (c|||32).toNat=c.toNat|||32:=by simp
 rw[e]
 exact eq_of_beq h
theorem lB {n:Nat} {s:Bs} (hn:s.length<n) (hs:s.length<1000000):dz n s=some (nameS s):=by
 unfold dz
 have hloop:=pL (n:=n) (step:=iC n s) (λk=> !(isL (s.getD k 0)|| (!decide (k=0)&&isD (s.getD k 0)))) s.length (.inl ()) (.inr ()) (λk hk=>by
  unfold iC
  rw[dT (by omega: (k:Int)<(s.length:Int)),cT,dQ 0 hk,bnd,or32]
  have e1: (bif decide ((97:Int)≤((s.getD k 0|||32).toNat:Int)) then some (decide (((s.getD k 0|||32).toNat:Int)≤122)) else some false)=some (isL (s.getD k 0)):=by
   rw[←low_L]
   by_cases h1:97≤(s.getD k 0|||32).toNat
   ·rw[dT (by omega: (97:Int)≤((s.getD k 0|||32).toNat:Int)),cT,dT h1,Bool.true_and]
    congr 1
    rw[decide_eq_decide]
    omega
   rw[dF (by omega: ¬ (97:Int)≤((s.getD k 0|||32).toNat:Int)),cF,dF h1,Bool.false_and]
  rw[e1,bnd]
  cases isL (s.getD k 0) with
  |true=>
   rw[nT,cF,aI (by omega) (by omega)]
   simp
  |false=>
   rw[nF,cT]
   by_cases h0:k=0
   ·rw[dT (by omega: (k:Int)=0),cT]
    simp[h0]
   rw[dF (by omega: ¬ (k:Int)=0),cF,bnd]
   by_cases h1:48≤(s.getD k 0).toNat
   ·rw[dF (by omega: ¬ ((s.getD k 0).toNat:Int)<48),cF,bnd]
    by_cases h2: (s.getD k 0).toNat≤57
    ·rw[dF (by omega: ¬ (57:Int)<((s.getD k 0).toNat:Int)),cF,aI (by omega) (by omega)]
     simp only[isD,dT h1,dT h2,dF h0]
     simp
    rw[dT (by omega: (57:Int)<((s.getD k 0).toNat:Int)),cT]
    simp only[isD,dT h1,dF h2,dF h0]
    simp
   rw[dT (by omega: ((s.getD k 0).toNat:Int)<48),cT]
   simp only[isD,dF h1,dF h0]
   simp) (by
  unfold iC
  rw[dF (by omega),cF]) hn
 rw[hloop,bnd]
 have hq: ((List.range s.length).any λk=> !(isL (s.getD k 0)|| (!decide (k=0)&&isD (s.getD k 0))))= !(decide (s.length=0)|| (isL (s.getD 0 0)&&s.all λc=>isL c||isD c)):=by
  cases s with
  |nil=>rfl
  |cons c r=>
   rw[List.length_cons,List.range_succ_eq_map,List.any_cons,List.any_map]
   have h1: ((λk=> !(isL ((c::r).getD k 0)|| (!decide (k=0)&&isD ((c::r).getD k 0)))) ∘ Nat.succ)=λk=> !(isL (r.getD k 0)||isD (r.getD k 0)):=by
    funext k
    simp
   rw[h1,qk 0 (λc=> !(isL c||isD c)) r]
   have h2: (r.any λc=> !(isL c||isD c))= !(r.all λc=>isL c||isD c):=by rw[List.not_all_eq_any_not]
   rw[h2]
   cases h3:isL c<;>simp[h3]
 rw[hq]
 cases h4: (decide (s.length=0)|| (isL (s.getD 0 0)&&s.all λc=>isL c||isD c)) with
 |false=>
  rw[nF,cT]
  simp only[Bool.or_eq_false_iff] at h4
  simp only[nameS,Bool.and_assoc,h4.2,Bool.and_false]
 |true=>
  rw[nT,cF]
  by_cases h5:0<s.length
  ·rw[dT (by omega: (0:Int)<(s.length:Int)),cT]
   have h6:decide (s.length=0)=false:=dF (by omega)
   rw[h6,Bool.false_or] at h4
   simp only[nameS,Bool.and_assoc,h4,Bool.and_true,dT (show 1≤s.length from h5),Bool.true_and]
   congr 1
   rw[decide_eq_decide]
   omega
  rw[dF (by omega: ¬ (0:Int)<(s.length:Int)),cF]
  simp only[nameS,dF (show ¬1≤s.length from h5),Bool.false_and]
end Go.Proofs.YtkopljikappieaaGreatDoor
end
section
namespace Go.Proofs.YtkopljikappieaaGreatDoor
open Go Go.Vc
theorem qx {α β:Type} {step:Int→Option (Lp Int β)} (d:α) (xs:List α) (q:α→Bool) (b:Nat→β) (e:β)
 (hs: ∀k:Nat,k<xs.length→step (k:Int)=if q (xs.getD k d) then some (.br (b k)) else some (.nx ((k:Int)+1))) (he:step (xs.length:Int)=some (.br e)):
 ∀ (m k:Nat),k+m=xs.length→∀n,m<n→au step n (k:Int)=some (match (xs.drop k).findIdx? q with|some i=>b (k+i)|none=>e)
 |0,k,hk,n,hn=>by
  obtain⟨n,rfl⟩: ∃r,n=r+1:=⟨n-1,by omega⟩
  have:k=xs.length:=by omega
  subst this
  simp[au,he]
 |m+1,k,hk,n,hn=>by
  obtain⟨n,rfl⟩: ∃r,n=r+1:=⟨n-1,by omega⟩
  have hlt:k<xs.length:=by omega
  have h1:=hs k hlt
  have h2:xs.drop k=xs.getD k d::xs.drop (k+1):=by
   rw[List.drop_eq_getElem_cons hlt]
   simp[List.getD,hlt]
  rw[au,h1,h2,List.findIdx?_cons]
  cases hq:q (xs.getD k d) with
  |true=>simp
  |false=>
   have ih:=qx d xs q b e hs he m (k+1) (by omega) n (by omega)
   have e1: (((k+1:Nat)):Int)=(k:Int)+1:=by omega
   rw[e1] at ih
   simp only[Bool.false_eq_true,if_false,Option.bind_some]
   rw[ih]
   cases (xs.drop (k+1)).findIdx? q with
   |none=>rfl
   |some i=>simp[Nat.add_assoc,Nat.add_comm 1 i]
theorem byteEq (c:UInt8) (z:Int) (m:UInt8) (hm:z=(m.toNat:Int)):decide ((c.toNat:Int)=z)=(c==m):=by
 rw[Bool.eq_iff_iff,decide_eq_true_iff,beq_iff_eq]
 rw[hm]
 constructor
 ·intro h
  exact UInt8.toNat_inj.1 (by omega)
 intro h
 rw[h]
theorem shut_ref {n k:Nat} {s:Bs} (hk:k≤s.length) (hn:s.length<n) (hs:s.length<1000000):
 lF n s (k:Int)=some (match (s.drop k).findIdx? (· ==125) with|some i=>((k+i:Nat):Int)|none=> -1):=by
 unfold lF
 rw[qx (step:=iv n s) 0 s (· ==125) (λi=>.inl ((i:Nat):Int)) (.inr ()) (λi hi=>by
  unfold iv
  rw[dT (by omega: (i:Int)<(s.length:Int)),cT,dQ 0 hi,bnd,byteEq _ 125 125 rfl]
  by_cases h: (s.getD i 0== (125:UInt8))=true
  ·rw[h,cT,if_pos rfl]
  ·rw[(by simpa using h: (s.getD i 0== (125:UInt8))=false),cF,if_neg (by decide),aI (by omega) (by omega)]) (by
  unfold iv
  rw[dF (by omega),cF]) (s.length-k) k (by omega) n (by omega),bnd]
 cases (s.drop k).findIdx? (· ==125)<;>rfl
theorem dot_ref {n:Nat} {s:Bs} (hn:s.length<n) (hs:s.length<1000000):
 lq n s=some (match s.findIdx? (· ==46) with|some i=>((i:Nat):Int)|none=> -1):=by
 unfold lq
 have:=qx (step:=js n s) 0 s (· ==46) (λi=>.inl ((i:Nat):Int)) (.inr ()) (λi hi=>by
  unfold js
  rw[dT (by omega: (i:Int)<(s.length:Int)),cT,dQ 0 hi,bnd,byteEq _ 46 46 rfl]
  by_cases h: (s.getD i 0== (46:UInt8))=true
  ·rw[h,cT,if_pos rfl]
  ·rw[(by simpa using h: (s.getD i 0== (46:UInt8))=false),cF,if_neg (by decide),aI (by omega) (by omega)]) (by
  unfold js
  rw[dF (by omega),cF]) s.length 0 (by omega) n (by omega)
 have e0: ((0:Nat):Int)=0:=rfl
 rw[e0,List.drop_zero] at this
 rw[this,bnd]
 cases s.findIdx? (· ==46) with
 |none=>rfl
 |some i=>simp
end Go.Proofs.YtkopljikappieaaGreatDoor
end
section
namespace Go.Proofs.YtkopljikappieaaGreatDoor
open Go Go.Vc
theorem tw (c:UInt8): ∀s:Bs,Lib.index s [c]=match s.findIdx? (· ==c) with|some i=>((i:Nat):Int)|none=> -1
 |[]=>by simp[Lib.index]
 |x::s=>by
  have ih:=tw c s
  rw[List.findIdx?_cons]
  by_cases h:x=c
  ·subst h
   simp[Lib.index]
  have h1: (x==c)=false:=by simpa using h
  have h2: ¬c=x:=λe=>h e.symm
  simp only[h1,Bool.false_eq_true,if_false]
  simp[Lib.index,h2,ih]
  cases s.findIdx? (· ==c)<;>simp
theorem cut_one (c:UInt8) (s:Bs):Lib.cut s [c]=match s.findIdx? (· ==c) with|some i=>(s.take i,s.drop (i+1),true)|none=>(s,[],false):=by
 unfold Lib.cut
 rw[tw]
 cases s.findIdx? (· ==c) with
 |none=>rfl
 |some i=>
  show(if 0≤((i:Nat):Int) then _ else _)=_
  rw[if_pos (by omega)]
  simp
theorem hole_cut {n:Nat} {s:Bs} (c:UInt8) (hs:s.length<1000000):h_Cut n s [c]=some (match s.findIdx? (· ==c) with|some i=>(s.take i,s.drop (i+1),true)|none=>(s,[],false)):=by
 unfold h_Cut
 rw[aP (by omega),cut_one]
end Go.Proofs.YtkopljikappieaaGreatDoor
end
section
namespace Go.Proofs.YtkopljikappieaaGreatDoor
open Go Go.Vc
def attrS (s:Bs):Bool:=match s.findIdx? (· ==46) with
 |some i=>decide (s.take i=[79,117,116,112,117,116,115])&&nameS (s.drop (i+1))
 |none=>nameS s
theorem attr_ref {n:Nat} {s:Bs} (hn:s.length<n) (hs:s.length<1000000):jS n s=some (attrS s):=by
 unfold jS attrS
 rw[dot_ref hn hs,bnd]
 cases h:s.findIdx? (· ==46) with
 |none=>
  show(bif decide ((-1:Int)<0) then _ else _)=some (nameS s)
  rw[dT (by omega),cT,kQ hn hs,bnd]
 |some i=>
  have hi:i<s.length:=by
   obtain⟨h1,_⟩:=List.findIdx?_eq_some_iff_getElem.1 h
   exact h1
  show(bif decide (((i:Nat):Int)<0) then _ else _)=some (decide (s.take i=[79,117,116,112,117,116,115])&&nameS (s.drop (i+1)))
  dsimp only
  rw[dF (by omega),cF,aP (by omega)]
  rw[Int.toNat_natCast]
  by_cases h2:s.take i=[79,117,116,112,117,116,115]
  ·rw[dT h2,cT,aI (by omega) (by omega),aP (by omega)]
   have e: ((i:Nat):Int)+1=((i+1:Nat):Int):=by omega
   rw[e,Int.toNat_natCast,kQ (by rw[List.length_drop];omega) (by rw[List.length_drop];omega),bnd,Bool.true_and]
  rw[dF h2,cF,Bool.false_and]
theorem nameS_dot {s:Bs} (h: (46:UInt8)∈s):nameS s=false:=by
 have: (s.all λc=>isL c||isD c)=false:=by
  rw[List.all_eq_false]
  exact⟨46,h,by decide⟩
 simp only[nameS,this,Bool.and_false]
end Go.Proofs.YtkopljikappieaaGreatDoor
end
section
namespace Go.Proofs.YtkopljikappieaaGreatDoor
open Go Go.Vc
theorem attr_sub {n:Nat} {s:Bs} (hn:s.length<n) (hs:s.length<1000000):mD n s=some (attrS s):=by
 unfold mD nJ
 rw[bnd]
 dsimp only
 cases hp:Lib.hasPrefix s [79,117,116,112,117,116,115,46] with
 |true=>
  obtain⟨r,rfl⟩:=List.isPrefixOf_iff_prefix.1 hp
  rw[cT]
  have e:Lib.trimPrefix ([79,117,116,112,117,116,115,46]++r) [79,117,116,112,117,116,115,46]=r:=by
   unfold Lib.trimPrefix
   rw[if_pos hp]
   rfl
  rw[e,lB (by simp at hn;omega) (by simp at hs;omega),bnd]
  simp[attrS,List.findIdx?_cons]
 |false=>
  rw[cF,lB hn hs,bnd]
  congr 1
  unfold attrS
  cases h:s.findIdx? (· ==46) with
  |none=>rfl
  |some i=>
   obtain⟨hi,h1,_⟩:=List.findIdx?_eq_some_iff_getElem.1 h
   have h2:s[i]=46:=by simpa using h1
   rw[nameS_dot (by rw[←h2];exact List.getElem_mem hi)]
   have h3: ¬s.take i=[79,117,116,112,117,116,115]:=λh3=>by
    have h4:s=[79,117,116,112,117,116,115,46]++s.drop (i+1):=by
     conv=>lhs;rw[←List.take_append_drop i s,h3,List.drop_eq_getElem_cons hi,h2]
     rfl
    have h5:Lib.hasPrefix s [79,117,116,112,117,116,115,46]=true:=List.isPrefixOf_iff_prefix.2 ⟨_,h4.symm⟩
    rw[hp] at h5
    cases h5
   show false=(decide (s.take i=[79,117,116,112,117,116,115])&&nameS (s.drop (i+1)))
   rw[dF h3,Bool.false_and]
end Go.Proofs.YtkopljikappieaaGreatDoor
end
section
namespace Go.Proofs.YtkopljikappieaaGreatDoor
open Go Go.Vc
theorem wrS {n:Nat} {a b:Bs} (h:a.length+b.length≤100000000000):cO n a b=some ((b.length:Int),(),a++b):=by
 unfold cO bY ct
 rw[bnd,aP (by omega)]
theorem wrB {n:Nat} {a:Bs} (c:UInt8) (h:a.length≤100000000000):bC n a (c.toNat:Int)=some ((),a++[c]):=by
 unfold bC bY ct
 have hc:=c.toNat_lt
 rw[bnd,aP (by omega),aP (by omega)]
 congr 3
 simp
theorem tabB: ((List.range 256).all λy=>bAnd .u8 (y:Int) 63== ((y % 64:Nat):Int))=true:=by kernel_rfl
theorem tabC: ((List.range 64).all λy=>bOr .u8 128 (y:Int)== ((128+y:Nat):Int))=true:=by kernel_rfl
theorem tabD: ((List.range 32).all λy=>bOr .u8 192 (y:Int)== ((192+y:Nat):Int))=true:=by kernel_rfl
theorem tabE: ((List.range 16).all λy=>bOr .u8 224 (y:Int)== ((224+y:Nat):Int))=true:=by kernel_rfl
theorem tabF: ((List.range 8).all λy=>bOr .u8 240 (y:Int)== ((240+y:Nat):Int))=true:=by kernel_rfl
theorem shr_i32 (c k:Nat) (hk:k≤32):bShr .i32 (c:Int) (k:Int)=((c / 2 ^ k:Nat):Int):=by
 unfold bShr
 have:min ((k:Int).toNat) IntKind.i32.bits=k:=by
  show min _ 32=k
  omega
 rw[this,Int.fdiv_eq_ediv_of_nonneg _ (Int.pow_nonneg (by omega))]
 norm_cast
theorem wrap_u8 (c:Nat):IntKind.wrap .u8 (c:Int)=((c % 256:Nat):Int):=by
 simp[IntKind.wrap,IntKind.bits,IntKind.signed]
theorem lowB (c:Nat):bOr .u8 128 (bAnd .u8 (IntKind.wrap .u8 (c:Int)) 63)=((128+c % 64:Nat):Int):=by
 rw[wrap_u8]
 have h:=List.all_eq_true.1 tabB (c % 256) (List.mem_range.2 (by omega))
 rw[eq_of_beq h]
 have h:=List.all_eq_true.1 tabC (c % 256 % 64) (List.mem_range.2 (by omega))
 rw[eq_of_beq h]
 omega
theorem hdD (c:Nat) (h:c<32):bOr .u8 192 (IntKind.wrap .u8 (c:Int))=((192+c:Nat):Int):=by
 rw[wrap_u8,show c % 256=c by omega]
 exact eq_of_beq (List.all_eq_true.1 tabD c (List.mem_range.2 h))
theorem hdE (c:Nat) (h:c<16):bOr .u8 224 (IntKind.wrap .u8 (c:Int))=((224+c:Nat):Int):=by
 rw[wrap_u8,show c % 256=c by omega]
 exact eq_of_beq (List.all_eq_true.1 tabE c (List.mem_range.2 h))
theorem hdF (c:Nat) (h:c<8):bOr .u8 240 (IntKind.wrap .u8 (c:Int))=((240+c:Nat):Int):=by
 rw[wrap_u8,show c % 256=c by omega]
 exact eq_of_beq (List.all_eq_true.1 tabF c (List.mem_range.2 h))
theorem byt2 (x y z w:Int) (h1:x=z) (h2:y=w): [UInt8.ofNat x.toNat,UInt8.ofNat y.toNat]=List.map (λx:Int=>x.toNat.toUInt8) [z,w]:=by subst h1 h2;rfl
theorem byt3 (x y u z w v:Int) (h1:x=z) (h2:y=w) (h3:u=v): [UInt8.ofNat x.toNat,UInt8.ofNat y.toNat,UInt8.ofNat u.toNat]=List.map (λx:Int=>x.toNat.toUInt8) [z,w,v]:=by subst h1 h2 h3;rfl
theorem byt4 (x y u p z w v q:Int) (h1:x=z) (h2:y=w) (h3:u=v) (h4:p=q): [UInt8.ofNat x.toNat,UInt8.ofNat y.toNat,UInt8.ofNat u.toNat,UInt8.ofNat p.toNat]=List.map (λx:Int=>x.toNat.toUInt8) [z,w,v,q]:=by subst h1 h2 h3 h4;rfl
theorem appR {n:Nat} {a:Bs} {c:Nat} (hc:c≤1114111) (h:a.length≤100000000000):dE n a (c:Int)=some (a++Lib.encodeRune (c:Int)):=by
 unfold dE
 rw[aP (by simp[inR,IntKind.min,IntKind.max,IntKind.signed,IntKind.bits];omega)]
 unfold Lib.encodeRune
 by_cases h1:c≤127
 ·rw[dT (by omega: (c:Int)≤127),cT,wrap_u8,show c % 256=c by omega,aP (by omega),aP (by omega),Lib.encodeRuneZ_one (by omega) (by omega)]
  simp
 rw[dF (by omega: ¬ (c:Int)≤127),cF]
 unfold cR
 rw[aP (by simp[inR,IntKind.min,IntKind.max,IntKind.signed,IntKind.bits];omega)]
 have s6:bShr .i32 (c:Int) 6=((c / 64:Nat):Int):=shr_i32 c 6 (by omega)
 have s12:bShr .i32 (c:Int) 12=((c / 4096:Nat):Int):=shr_i32 c 12 (by omega)
 have s18:bShr .i32 (c:Int) 18=((c / 262144:Nat):Int):=shr_i32 c 18 (by omega)
 rw[s6,s12,s18,lowB c,lowB (c / 64),lowB (c / 4096)]
 by_cases h2:c≤2047
 ·rw[dT (by omega: (c:Int)≤2047),cT,hdD _ (by omega),aP (by omega),aP (by omega),aP (by omega),bnd,Lib.encodeRuneZ_two (by omega) (by omega)]
  exact congrArg some (congrArg (a++ ·) (byt2 _ _ _ _ (by omega) (by omega)))
 rw[dF (by omega: ¬ (c:Int)≤2047),cF]
 have e3:224+c / 4096<240→some (a++[UInt8.ofNat ((((224+c / 4096:Nat):Int)).toNat),UInt8.ofNat ((((128+c / 64 % 64:Nat):Int)).toNat),UInt8.ofNat ((((128+c % 64:Nat):Int)).toNat)])=some (a++List.map (λx=>x.toNat.toUInt8) [224+ (c:Int) / 4096,128+ (c:Int) / 64 % 64,128+ (c:Int) % 64]):=λ_=>by
  exact congrArg some (congrArg (a++ ·) (byt3 _ _ _ _ _ _ (by omega) (by omega) (by omega)))
 by_cases h3:c<55296
 ·rw[dT (by omega: (c:Int)<55296),cT,bnd,cT,hdE _ (by omega),aP (by omega),aP (by omega),aP (by omega),aP (by omega),bnd,Lib.encodeRuneZ_three (by omega)]
  exact e3 (by omega)
 rw[dF (by omega: ¬ (c:Int)<55296),cF]
 by_cases h4:57343<c
 ·rw[dT (by omega: (57343:Int)<c),cT,bnd]
  by_cases h5:c≤65535
  ·rw[dT (by omega: (c:Int)≤65535),cT,hdE _ (by omega),aP (by omega),aP (by omega),aP (by omega),aP (by omega),bnd,Lib.encodeRuneZ_three (by omega)]
   exact e3 (by omega)
  rw[dF (by omega: ¬ (c:Int)≤65535),cF,dT (by omega: (65535:Int)<c),cT,dT (by omega: (c:Int)≤1114111),bnd,cT,hdF _ (by omega),aP (by omega),aP (by omega),aP (by omega),aP (by omega),aP (by omega),bnd,Lib.encodeRuneZ_four (by omega) (by omega)]
  exact congrArg some (congrArg (a++ ·) (byt4 _ _ _ _ _ _ _ _ (by omega) (by omega) (by omega) (by omega)))
 rw[dF (by omega: ¬ (57343:Int)<c),cF,bnd,cF,dF (by omega: ¬ (65535:Int)<c),cF,bnd,cF,aP (by omega),bnd]
 have:Lib.encodeRuneZ (c:Int)=[239,191,189]:=by
  unfold Lib.encodeRuneZ
  rw[if_neg (by omega),if_neg (by omega),if_neg (by omega),if_neg (by omega)]
 rw[this]
 rfl
theorem wrR {n:Nat} {a:Bs} {c:Nat} (hc:c≤1114111) (h:a.length≤100000000000):bV n a (c:Int)=some (((Lib.encodeRune (c:Int)).length:Int),(),a++Lib.encodeRune (c:Int)):=by
 unfold bV bY ct
 have hl: (Lib.encodeRune (c:Int)).length≤4:=by
  unfold Lib.encodeRune Lib.encodeRuneZ
  repeat' split
  all_goals simp
 rw[bnd,appR hc h,bnd,List.length_append,aI (by omega) (by omega)]
 congr 2
 omega
end Go.Proofs.YtkopljikappieaaGreatDoor
end
section
namespace Go.Proofs.YtkopljikappieaaGreatDoor
open Go Go.Vc
def holeS (s:Bs):TG0×Bool:=match s.findIdx? (· ==46) with
 |some i=>(⟨4,[],0,s.take i,s.drop (i+1),[]⟩,nameS (s.take i)&&attrS (s.drop (i+1)))
 |none=>(⟨3,[],0,s,[],[]⟩,nameS s)
theorem hole_sub {n:Nat} {s:Bs} (hn:s.length<n) (hs:s.length<1000000):nV n s=some (holeS s):=by
 unfold nV holeS
 rw[hole_cut 46 hs,bnd]
 cases h:s.findIdx? (· ==46) with
 |none=>
  dsimp only
  rw[cF,lB hn hs,bnd]
 |some i=>
  dsimp only
  rw[cT,lB (by rw[List.length_take];omega) (by rw[List.length_take];omega),bnd]
  cases nameS (s.take i) with
  |true=>rw[cT,attr_sub (by rw[List.length_drop];omega) (by rw[List.length_drop];omega),bnd,bnd,Bool.true_and]
  |false=>rw[cF,bnd,Bool.false_and]
inductive It
 |tx (b:Bs)
 |ho (x:TG0)
def txE (b:Bs):TG0:=⟨0,b,0,[],[],[]⟩
def add (it:It) (k:Nat) (p:List It×Option Nat):List It×Option Nat:=(it::p.1,p.2.map (· +k))
def prs:Bs→List It×Option Nat
 |[]=>([],none)
 |c::r=>
  if c=36∧r.head?=some 123 then
   match (r.drop 1).findIdx? (· ==125) with
   |none=>([],some 0)
   |some i=>
    if ((r.drop 1).take i).head?=some 33 then add (.tx (36::123::((r.drop 1).take i).drop 1++[125])) (i+3) (prs (r.drop (i+2)))
    else if (holeS ((r.drop 1).take i)).2 then add (.ho (holeS ((r.drop 1).take i)).1) (i+3) (prs (r.drop (i+2)))
    else([],some 0)
  else add (.tx [c]) 1 (prs r)
 termination_by s=>s.length
 decreasing_by all_goals simp<;>omega
def fl (b:Bs):List TG0:=if b=[] then [] else [txE b]
def mrg:Bs→List It→List TG0
 |b,[]=>fl b
 |b,.tx a::r=>mrg (b++a) r
 |b,.ho x::r=>fl b++x::mrg [] r
def lexS (s:Bs):List TG0×Int×Int:=
 if Lib.validD s=true then
  if s.length≤4096 then match (prs s).2 with
   |some p=>([],(p:Int),130)
   |none=>(mrg [] (prs s).1,0,0)
  else([],0,3)
 else([],0,10)
theorem pT:prs []=([],none):=by rw[prs]
theorem pf {c:UInt8} {r:Bs} (h: ¬ (c=36∧r.head?=some 123)):prs (c::r)=add (.tx [c]) 1 (prs r):=by rw[prs,if_neg h]
theorem pR {r:Bs} (h:r.findIdx? (· ==125)=none):prs (36::123::r)=([],some 0):=by
 rw[prs,if_pos ⟨rfl,rfl⟩,List.drop_one,List.tail_cons,h]
theorem rv {r:Bs} {i:Nat} (h:r.findIdx? (· ==125)=some i) (h2: (r.take i).head?=some 33):prs (36::123::r)=add (.tx (36::123::(r.take i).drop 1++[125])) (i+3) (prs (r.drop (i+1))):=by
 rw[prs,if_pos ⟨rfl,rfl⟩,List.drop_one,List.tail_cons,h]
 dsimp only
 rw[if_pos h2]
 rfl
theorem pS {r:Bs} {i:Nat} (h:r.findIdx? (· ==125)=some i) (h2: (r.take i).head?≠some 33) (h3: (holeS (r.take i)).2=true):prs (36::123::r)=add (.ho (holeS (r.take i)).1) (i+3) (prs (r.drop (i+1))):=by
 rw[prs,if_pos ⟨rfl,rfl⟩,List.drop_one,List.tail_cons,h]
 dsimp only
 rw[if_neg h2,if_pos h3]
 rfl
theorem pU {r:Bs} {i:Nat} (h:r.findIdx? (· ==125)=some i) (h2: (r.take i).head?≠some 33) (h3: (holeS (r.take i)).2=false):prs (36::123::r)=([],some 0):=by
 rw[prs,if_pos ⟨rfl,rfl⟩,List.drop_one,List.tail_cons,h]
 dsimp only
 rw[if_neg h2,if_neg (by rw[h3];simp)]
end Go.Proofs.YtkopljikappieaaGreatDoor
end
section
namespace Go.Proofs.YtkopljikappieaaGreatDoor
open Go Go.Vc
def isStart (s:Bs) (k:Nat):Bool:=decide (s.getD k 0=36∧(s.drop (k+1)).head?=some 123)
theorem start_ref {s:Bs} {k:Nat} (hk:k<s.length) (hs:s.length<1000000):
 ((aB s (k:Int)).bind λdW=>
   bif(!(decide (((dW).toNat:Int)=36))) then
    (some ((true)))
   else
    aL (inR .i64 ((k:Int)+1))<|
    bif(decide ((s.length:Int)≤((k:Int)+1))) then
     (some ((true)))
    else
     aL (inR .i64 ((k:Int)+1))<|
     (aB s ((k:Int)+1)).bind λie=>
     some ((!(decide (((ie).toNat:Int)=123)))))=some (!isStart s k):=by
 unfold isStart
 rw[dQ 0 hk,bnd,byteEq _ 36 36 rfl]
 by_cases h:s.getD k 0=36
 ·rw[h,beq_self_eq_true,nT,cF,aI (by omega) (by omega)]
  by_cases h2:s.length≤k+1
  ·rw[dT (by omega),cT,List.drop_eq_nil_of_le h2]
   rfl
  have e: (k:Int)+1=((k+1:Nat):Int):=by omega
  rw[dF (by omega),cF,aI (by omega) (by omega),e,dQ 0 (by omega),bnd,byteEq _ 123 123 rfl]
  have e2: (s.drop (k+1)).head?=some (s.getD (k+1) 0):=by
   rw[List.head?_drop]
   simp[List.getD,show k+1<s.length by omega]
  rw[e2]
  congr 2
  rw[Bool.eq_iff_iff,beq_iff_eq,decide_eq_true_iff]
  simp
 rw[show(s.getD k 0== (36:UInt8))=false by simpa using h,nF,cT,dF (λh2=>h h2.1)]
 rfl
theorem pE {s:Bs} {k:Nat} (hk:k<s.length):s.drop k=s.getD k 0::s.drop (k+1):=by
 rw[List.drop_eq_getElem_cons hk]
 simp[List.getD,hk]
theorem start_shape {s:Bs} {k:Nat} (hk:k<s.length) (h:isStart s k=true):k+1<s.length∧s.drop k=36::123::s.drop (k+2):=by
 unfold isStart at h
 obtain⟨h1,h2⟩:=of_decide_eq_true h
 have h3:k+1<s.length:=by
  by_cases h3:k+1<s.length
  ·exact h3
  rw[List.drop_eq_nil_of_le (by omega)] at h2
  cases h2
 refine⟨h3,?_⟩
 rw[pE hk,h1,pE h3] at*
 simp only[List.head?_cons,Option.some.injEq] at h2
 rw[h2]
theorem prs_at {s:Bs} {k:Nat} (hk:k<s.length) (h:isStart s k=false):prs (s.drop k)=add (.tx [s.getD k 0]) 1 (prs (s.drop (k+1))):=by
 rw[pE hk,pf (of_decide_eq_false h)]
theorem ni {s:Bs} {k e:Nat}: (s.take (k+e)).drop k=(s.drop k).take e:=by
 rw[List.drop_take]
 congr 1
 omega
theorem tv {l:Bs} {i:Nat} (hi:l.findIdx? (· ==125)=some i): (l.take i).head?=some 33↔l.head?=some 33:=by
 cases l with
 |nil=>cases hi
 |cons c r=>
  cases i with
  |zero=>
   rw[List.findIdx?_cons] at hi
   have:c=125:=by
    by_cases h: (c==125)=true
    ·simpa using h
    rw[if_neg h] at hi
    cases h2:r.findIdx? (· ==125) with
    |none=>rw[h2] at hi;cases hi
    |some j=>rw[h2] at hi;simp at hi
   subst this
   simp
  |succ i=>simp
end Go.Proofs.YtkopljikappieaaGreatDoor
end
section
namespace Go.Proofs.YtkopljikappieaaGreatDoor
open Go Go.Vc
theorem lex1_eq {n:Nat} {b:Bs} {l:List TG0} (h:l.length<1000000):lr n b l=some ([],l++fl b):=by
 unfold lr gP eY eJ fl
 rw[bnd]
 dsimp only
 by_cases h0:b=[]
 ·subst h0
  simp
 have:0<b.length:=List.length_pos_iff.2 h0
 rw[dT (by omega),cT,bnd,aP (by omega),dQ (txE []) (by simp),bnd,bnd,bnd,if_neg h0]
 simp[txE]
theorem fl_len (b:Bs): (fl b).length≤1:=by unfold fl;split<;>simp
theorem prs_app: ∀ (a r:Bs),(∀x∈a,x≠36)→prs (a++r)=(a.map (λx=>It.tx [x])++(prs r).1,(prs r).2.map (· +a.length))
 |[],r,_=>by simp
 |c::a,r,h=>by
  rw[List.cons_append,pf (λe=>h c (by simp) e.1),prs_app a r (λx hx=>h x (by simp[hx]))]
  unfold add
  simp only[List.map_cons,List.cons_append,Option.map_map,List.length_cons]
  refine congrArg (Prod.mk _) (congrFun (congrArg Option.map ?_) _)
  funext x
  simp only[Function.comp]
  omega
theorem mrg_app: ∀ (a b:Bs) (l:List It),mrg b (a.map (λx=>It.tx [x])++l)=mrg (b++a) l
 |[],b,l=>by simp
 |c::a,b,l=>by
  simp only[List.map_cons,List.cons_append,mrg]
  rw[mrg_app a (b++[c]) l]
  simp
def MacPost (s:Bs) (k:Nat) (out:List TG0) (text:Bs) (b:Sum (Int×Bs×Nat) (Int×Int×Bs×List TG0×Nat)):Prop:=
 match (prs (s.drop k)).2 with
 |some p=>(∃t z,b=.inl (((k+p:Nat):Int),t,z))∨∃t o z,b=.inr (2,((k+p:Nat):Int),t,o,z)
 |none=>(∃o t f z,b=.inr (0,f,t,o,z)∧o++fl t=out++mrg text (prs (s.drop k)).1∧t.length≤s.length∧o.length≤s.length)∨
  (∃o t f z,b=.inr (1,f,t,o,z)∧o++fl (t++[36])=out++mrg text (prs (s.drop k)).1∧t.length≤s.length∧o.length≤s.length)
theorem MacPost.of_add {s:Bs} {k j:Nat} {it:List It} {out out':List TG0} {text text':Bs} {b:Sum (Int×Bs×Nat) (Int×Int×Bs×List TG0×Nat)}
 (h:prs (s.drop k)=(it++(prs (s.drop (k+j))).1,(prs (s.drop (k+j))).2.map (· +j))) (hm: ∀l,out'++mrg text' l=out++mrg text (it++l)) (hp:MacPost s (k+j) out' text' b):MacPost s k out text b:=by
 unfold MacPost at hp ⊢
 rw[h]
 cases hq: (prs (s.drop (k+j))).2 with
 |some p=>
  rw[hq] at hp
  have e:k+j+p=k+ (p+j):=by omega
  dsimp only at hp
  rw[e] at hp
  exact hp
 |none=>
  rw[hq] at hp
  rcases hp with⟨o,t,f,z,h1,h2,h3⟩|⟨o,t,f,z,h1,h2,h3⟩
  ·exact .inl ⟨o,t,f,z,h1,by rw[h2,hm],h3⟩
  exact .inr ⟨o,t,f,z,h1,by rw[h2,hm],h3⟩
theorem tK {s:Bs} {k:Nat} {a t:Bs} (h:s.drop k=a++t) (ha: ∀x∈a,x≠36):prs (s.drop k)=(a.map (λx=>It.tx [x])++(prs (s.drop (k+a.length))).1,(prs (s.drop (k+a.length))).2.map (· +a.length)):=by
 have e:s.drop (k+a.length)=t:=by rw[←List.drop_drop,h,List.drop_left]
 rw[h,e]
 exact prs_app a t ha
def MacSt (s:Bs) (k i:Nat) (st:Int) (fr:Int):Prop:=
 (st=0∧i=k)∨(st=1∧i=k+1∧fr=(k:Int)∧k<s.length∧s.getD k 0=36)∨
 (st=2∧fr=(k:Int)∧k+2≤i∧s.drop k=36::123::s.drop (k+2)∧∀j,k+2≤j→j<i→s.getD j 0≠125)
theorem pz {s a t:Bs} {i j:Nat} (h:s.drop i=a++t) (h1:i≤j) (h2:j<i+a.length):s.getD j 0∈a:=by
 have e:s.getD j 0=(s.drop i).getD (j-i) 0:=by
  rw[Lib.getD_dropU]
  congr 1
  omega
 rw[e,h]
 have: (a++t).getD (j-i) 0=a[j-i]'(by omega):=by
  simp[List.getD,List.getElem?_append,show j-i<a.length by omega]
 rw[this]
 exact List.getElem_mem _
theorem findIdx_shut {s:Bs} {k i:Nat} (h: ∀j,k≤j→j<i→s.getD j 0≠125) (hki:k≤i) (hi:i<s.length) (hc:s.getD i 0=125): (s.drop k).findIdx? (· ==125)=some (i-k):=by
 rw[List.findIdx?_eq_some_iff_getElem]
 refine⟨by rw[List.length_drop];omega,?_,λj hj=>?_⟩
 ·rw[List.getElem_drop]
  have:s.getD i 0=s[k+ (i-k)]'(by omega):=by simp[List.getD,show k+ (i-k)=i by omega,hi]
  rw[←this,hc]
  rfl
 rw[List.getElem_drop]
 have h1:s.getD (k+j) 0=s[k+j]'(by omega):=by simp[List.getD,show k+j<s.length by omega]
 rw[←h1]
 have:=h (k+j) (by omega) (by omega)
 simpa using this
theorem shut_none {s:Bs} {k:Nat} (h: ∀j,k≤j→j<s.length→s.getD j 0≠125): (s.drop k).findIdx? (· ==125)=none:=by
 rw[List.findIdx?_eq_none_iff]
 intro x hx
 obtain⟨j,hj,rfl⟩:=List.mem_iff_getElem.1 hx
 rw[List.length_drop] at hj
 rw[List.getElem_drop]
 have h1:s.getD (k+j) 0=s[k+j]'(by omega):=by simp[List.getD,show k+j<s.length by omega]
 rw[←h1]
 have:=h (k+j) (by omega) (by omega)
 simpa using this
end Go.Proofs.YtkopljikappieaaGreatDoor
end
section
namespace Go.Proofs.YtkopljikappieaaGreatDoor
open Go Go.Vc
theorem kd {n:Nat} {s:Bs} (hs:s.length<100000) (hn:s.length<n): ∀ (m k i:Nat) (st fr:Int) (out:List TG0) (text:Bs),s.length≤i+m→i≤s.length→Lib.validD (s.drop i)=true→MacSt s k i st fr→text.length≤k→out.length≤k→∀q,m<q→
 ∃b,au (lL n s) q (st,fr,out,text,i)=some b∧MacPost s k out text b
 |m,k,i,st,fr,out,text,hm,hi,hv,hst,ht,ho,q,hq=>by
  have hks:k≤i:=by rcases hst with⟨_,h⟩|⟨_,h,_⟩|⟨_,_,h,_⟩<;>omega
  obtain⟨q,rfl⟩: ∃r,q=r+1:=⟨q-1,by omega⟩
  rw[au,lL]
  dsimp only
  by_cases hlt:i<s.length
  case neg=>
   rw[dF hlt,cF,bnd]
   refine⟨_,rfl,?_⟩
   have hie:i=s.length:=by omega
   unfold MacPost
   rcases hst with⟨rfl,rfl⟩|⟨rfl,h1,rfl,h2,h3⟩|⟨rfl,rfl,h1,h2,h3⟩
   ·rw[List.drop_eq_nil_of_le (by omega),pT]
    exact .inl ⟨out,text,fr,_,rfl,rfl,by omega,by omega⟩
   ·rw[pE h2,h3,List.drop_eq_nil_of_le (by omega),pf (by simp),pT]
    exact .inr ⟨out,text,_,_,rfl,rfl,by omega,by omega⟩
   rw[h2,pR (shut_none λj g1 g2=>h3 j g1 (by omega))]
   exact .inr ⟨text,out,_,rfl⟩
  obtain⟨m,rfl⟩: ∃r,m=r+1:=⟨m-1,by omega⟩
  have hne:s.drop i≠ []:=λe=>by
   have:=congrArg List.length e
   rw[List.length_drop] at this
   simp at this
   omega
  rw[dT hlt,cT,bnd]
  obtain⟨r,a,t,hd,hdec,ha0,hr,henc,hvt,ha36,ha125,hr36,hr123,hr125⟩: ∃ (r:Nat) (a t:Bs),s.drop i=a++t∧Lib.decodeL (s.drop i)=(r,a.length)∧a≠ []∧r≤1114111∧Lib.encodeRune (r:Int)=a∧Lib.validD t=true∧
   (r≠36→∀x∈a,x≠36)∧(r≠125→∀x∈a,x≠125)∧(r=36→a=[36])∧(a.head?=some 123→r=123)∧(r=125→a=[125]):=by
   rcases rune_at hne hv with⟨c,t,h1,h2,h3,h4⟩|⟨r,a,t,h1,h2,h3,h4,h5,h6,h7,h8⟩
   ·refine⟨c.toNat,[c],t,h1,h3,by simp,by omega,?_,h4,λh x hx=>?_,λh x hx=>?_,λh=>?_,λh=>?_,λh=>?_⟩
    ·unfold Lib.encodeRune
     rw[Lib.encodeRuneZ_one (by omega) (by omega)]
     simp
    ·simp at hx;subst hx;exact λe=>h (by rw[e];rfl)
    ·simp at hx;subst hx;exact λe=>h (by rw[e];rfl)
    ·exact congrArg (λy=>[y]) (UInt8.toNat_inj.1 h)
    ·simp at h;rw[h];rfl
    exact congrArg (λy=>[y]) (UInt8.toNat_inj.1 h)
   refine⟨r,a,t,h1,h2,h3,h6,h7,h8,λh x hx e=>?_,λh x hx e=>?_,λh=>by omega,λh=>?_,λh=>by omega⟩
   ·have:=h4 x hx;rw[e] at this;simp at this
   ·have:=h4 x hx;rw[e] at this;simp at this
   cases a with
   |nil=>simp at h
   |cons x a=>
    simp at h
    have:=h4 x (by simp)
    rw[h] at this;simp at this
  have hal:0<a.length:=List.length_pos_iff.2 ha0
  have hil:i+a.length≤s.length:=by
   have:=congrArg List.length hd
   rw[List.length_drop,List.length_append] at this
   omega
  have hvt':Lib.validD (s.drop (i+a.length))=true:=by rw[←List.drop_drop,hd,List.drop_left];exact hvt
  rw[hdec]
  dsimp only
  have c36: (decide ((r:Int)=36))=decide (r=36):=by rw[decide_eq_decide];omega
  have c123: (decide ((r:Int)=123))=decide (r=123):=by rw[decide_eq_decide];omega
  have c125: (decide ((r:Int)=125))=decide (r=125):=by rw[decide_eq_decide];omega
  rw[c36,c123,c125]
  have hw:bV n text (r:Int)=some ((a.length:Int),(),text++a):=by
   have:=wrR (n:=n) (a:=text) (c:=r) hr (by omega)
   rw[henc] at this
   exact this
  have hw1:bV n (text++[36]) (r:Int)=some ((a.length:Int),(),text++[36]++a):=by
   have:=wrR (n:=n) (a:=text++[36]) (c:=r) hr (by rw[List.length_append,List.length_singleton];omega)
   rw[henc] at this
   exact this
  have hwb:bC n text 36=some ((),text++[36]):=wrB (n:=n) (a:=text) 36 (by omega)
  rcases hst with⟨rfl,rfl⟩|⟨rfl,h1,rfl,h2,h3⟩|⟨rfl,rfl,h1,h2,h3⟩
  ·
   rw[dF (by omega: ¬ ((0:Int)=2)),cF,bnd,cF,cF,dF (by omega: ¬ ((0:Int)=1)),cF,bnd,cF]
   by_cases hr3:r=36
   ·have ea:=hr36 hr3
    rw[dT hr3,cT,cF,bnd]
    dsimp only
    refine kd hs hn m i (i+a.length) 1 (i:Int) out text (by omega) hil hvt' (.inr (.inl ⟨rfl,by rw[ea];rfl,rfl,hlt,?_⟩)) ht ho q (by omega)
    have:=pz hd (Nat.le_refl i) (by omega)
    rw[ea] at this
    simpa using this
   rw[dF hr3,cF,cF,hw,bnd,bnd]
   dsimp only
   obtain⟨b,g1,g2⟩:=kd hs hn m (i+a.length) (i+a.length) 0 fr out (text++a) (by omega) hil hvt' (.inl ⟨rfl,rfl⟩) (by rw[List.length_append];omega) (by omega) q (by omega)
   exact⟨b,g1,MacPost.of_add (tK hd (ha36 hr3)) (λl=>by rw[mrg_app]) g2⟩
  ·
   subst h1
   rw[dF (by omega: ¬ ((1:Int)=2)),cF,bnd,cF,cF,dT (rfl: (1:Int)=1),cT,bnd]
   have hk:s.drop k=36::s.drop (k+1):=by rw[pE h2,h3]
   by_cases hr1:r=123
   ·rw[dT hr1,cT,bnd]
    dsimp only
    have hlen:a=[123]:=by
     have:=henc
     rw[hr1] at this
     rw[←this]
     rfl
    refine kd hs hn m k (k+1+a.length) 2 (k:Int) out text (by omega) hil hvt' (.inr (.inr ⟨rfl,rfl,by omega,?_,λj g1 g2=>?_⟩)) ht ho q (by omega)
    ·rw[hk,hd,hlen]
     have:t=s.drop (k+2):=by
      rw[hlen] at hd
      rw[show k+2=k+1+1 by omega,←List.drop_drop,hd]
      rfl
     rw[this]
     rfl
    rw[hlen] at g2
    simp only[List.length_cons,List.length_nil] at g2
    omega
   rw[dF hr1,cF]
   have hnot: ¬ ((36:UInt8)=36∧(s.drop (k+1)).head?=some 123):=λh=>by
    rw[hd] at h
    cases a with
    |nil=>exact ha0 rfl
    |cons x a=>exact hr1 (hr123 (by simpa using h.2))
   have hpk:prs (s.drop k)=add (.tx [36]) 1 (prs (s.drop (k+1))):=by rw[hk,pf hnot]
   by_cases hr3:r=36
   ·have ea:=hr36 hr3
    rw[dT hr3,cT,cT,hwb,bnd,bnd]
    dsimp only
    obtain⟨b,g1,g2⟩:=kd hs hn m (k+1) (k+1+a.length) 1 ((k+1:Nat):Int) out (text++[36]) (by omega) hil hvt' (.inr (.inl ⟨rfl,by rw[ea];rfl,rfl,by omega,by
     have:=pz hd (Nat.le_refl (k+1)) (by omega)
     rw[ea] at this
     simpa using this⟩)) (by rw[List.length_append,List.length_singleton];omega) (by omega) q (by omega)
    exact⟨b,g1,MacPost.of_add (it:=[.tx [36]]) hpk (λl=>rfl) g2⟩
   rw[dF hr3,cF,cT,hwb,bnd]
   dsimp only
   rw[hw1,bnd,bnd]
   dsimp only
   obtain⟨b,g1,g2⟩:=kd hs hn m (k+1+a.length) (k+1+a.length) 0 (k:Int) out (text++[36]++a) (by omega) hil hvt' (.inl ⟨rfl,rfl⟩) (by simp only[List.length_append,List.length_singleton];omega) (by omega) q (by omega)
   refine⟨b,g1,MacPost.of_add (it:=[.tx [36]]) (j:=1) hpk (λl=>rfl) (MacPost.of_add (tK hd (ha36 hr3)) (λl=>by rw[mrg_app]) g2)⟩
  rw[dT (rfl: (2:Int)=2),cT,bnd]
  by_cases hr5:r=125
  ·have ea:=hr125 hr5
   have hil':i+1≤s.length:=by omega
   have hci:s.getD i 0=125:=by
    have:=pz hd (Nat.le_refl i) (by omega)
    rw[ea] at this
    simpa using this
   have hf:=findIdx_shut h3 h1 hlt hci
   have e2: (k:Int)+2=((k+2:Nat):Int):=by omega
   have ein: (s.take i).drop (k+2)=(s.drop (k+2)).take (i- (k+2)):=by
    have:=ni (s:=s) (k:=k+2) (e:=i- (k+2))
    rw[show k+2+ (i- (k+2))=i by omega] at this
    exact this
   have hinl: ((s.drop (k+2)).take (i- (k+2))).length=i- (k+2):=by rw[List.length_take,List.length_drop];omega
   have hnext:s.drop (k+ (i- (k+2)+3))=(s.drop (k+2)).drop (i- (k+2)+1):=by
    rw[List.drop_drop]
    congr 1
    omega
   have hki:k+ (i- (k+2)+3)=i+1:=by omega
   rw[dT hr5,cT,aI (by omega) (by omega),aP (by omega),e2,Int.toNat_natCast,Int.toNat_natCast,ein]
   unfold nK
   rw[bnd]
   generalize hin: (s.drop (k+2)).take (i- (k+2))=inn at hinl ⊢
   have hal1:a.length=1:=by rw[ea];rfl
   rw[hal1] at hvt' ⊢
   cases hp:Lib.hasPrefix inn [33] with
   |true=>
    have h33:inn.head?=some 33:=by
     obtain⟨u,hu⟩:=List.isPrefixOf_iff_prefix.1 hp
     rw[←hu]
     rfl
    have hpos:0<inn.length:=by
     cases inn with
     |nil=>cases h33
     |cons x y=>simp
    have hdl: (inn.drop (1:Int).toNat).length=inn.length-1:=by
     rw[List.length_drop]
     rfl
    rw[cT,aP (by omega),aP (by simp only[List.length_cons,List.length_nil,hdl];omega),aP (by simp only[List.length_append,List.length_cons,List.length_nil,hdl];omega),wrS (by simp only[List.length_append,List.length_cons,List.length_nil,hdl];omega),bnd,bnd]
    dsimp only
    obtain⟨b,g1,g2⟩:=kd hs hn m (i+1) (i+1) 0 (k:Int) out (text++(([36,123]++inn.drop (1:Int).toNat)++[125])) (by omega) hil' hvt' (.inl ⟨rfl,rfl⟩) (by simp only[List.length_append,List.length_cons,List.length_nil,hdl];omega) (by omega) q (by omega)
    refine⟨b,g1,MacPost.of_add (it:=[.tx (36::123::inn.drop 1++[125])]) (j:=i- (k+2)+3) ?_ (λl=>rfl) (by rw[hki];exact g2)⟩
    rw[h2,rv hf (by rw[hin];exact h33),hnext,hin]
    rfl
   |false=>
    have h33:inn.head?≠some 33:=λh=>by
     cases inn with
     |nil=>cases h
     |cons x y=>
      simp at h
      subst h
      simp[Lib.hasPrefix] at hp
    rw[cF,hole_sub (by omega) (by omega),bnd]
    cases hh: (holeS inn).2 with
    |false=>
     rw[cF,bnd]
     refine⟨_,rfl,?_⟩
     unfold MacPost
     rw[h2,pU hf (by rw[hin];exact h33) (by rw[hin];exact hh)]
     exact .inl ⟨text,i+1,rfl⟩
    |true=>
     have hfl:=fl_len text
     have hol: (out++fl text).length≤k+1:=by rw[List.length_append];omega
     rw[cT,lex1_eq (by omega),bnd]
     dsimp only
     rw[aP (by omega),dQ (txE []) (by simp),bnd,bnd,bnd]
     dsimp only
     have hset: ((out++fl text)++[(⟨(0:Int),([]:Bs),(0:Int),([]:Bs),([]:Bs),([]:List TG0)⟩:TG0)]).set (((out++fl text).length:Nat):Int).toNat (holeS inn).1=(out++fl text)++[(holeS inn).1]:=by
      rw[Int.toNat_natCast]
      simp
     rw[hset]
     obtain⟨b,g1,g2⟩:=kd hs hn m (i+1) (i+1) 0 (k:Int) ((out++fl text)++[(holeS inn).1]) [] (by omega) hil' hvt' (.inl ⟨rfl,rfl⟩) (by simp) (by rw[List.length_append,List.length_singleton];omega) q (by omega)
     refine⟨b,g1,MacPost.of_add (it:=[.ho (holeS inn).1]) (j:=i- (k+2)+3) ?_ (λl=>by show(out++fl text++[(holeS inn).1])++mrg [] l=out++(fl text++(holeS inn).1::mrg [] l);simp only[List.append_assoc,List.cons_append,List.nil_append]) (by rw[hki];exact g2)⟩
     rw[h2,pS hf (by rw[hin];exact h33) (by rw[hin];exact hh),hnext,hin]
     rfl
  rw[dF hr5,cF,cT,bnd]
  dsimp only
  refine kd hs hn m k (i+a.length) 2 (k:Int) out text (by omega) hil hvt' (.inr (.inr ⟨rfl,rfl,by omega,h2,λj g1 g2=>?_⟩)) ht ho q (by omega)
  by_cases hj:j<i
  ·exact h3 j g1 hj
  exact ha125 hr5 _ (pz hd (by omega) g2)
theorem lex_sub {n:Nat} {s:Bs} (hs:s.length<100000) (hn:s.length+5<n):qd n s=some (lexS s):=by
 unfold qd lexS gg jG
 rw[aP (by omega),bnd,bnd]
 cases hv:Lib.validD s with
 |false=>rfl
 |true=>
  rw[nT,cF,if_pos rfl]
  by_cases h:s.length≤4096
  ·rw[dF (by omega),cF,if_pos h]
   obtain⟨b,h1,h2⟩:=kd (n:=n) hs (by omega) s.length 0 0 0 0 [] [] (by omega) (by omega) (by rw[List.drop_zero];exact hv) (.inl ⟨rfl,rfl⟩) (by simp) (by simp) n (by omega)
   rw[h1,bnd]
   unfold MacPost at h2
   rw[List.drop_zero] at h2
   cases hp: (prs s).2 with
   |some p=>
    rw[hp] at h2
    dsimp only at h2 ⊢
    rw[Nat.zero_add] at h2
    rcases h2 with⟨t,z,rfl⟩|⟨t,o,z,rfl⟩
    ·rfl
    dsimp only
    rw[dT (by omega),cT,mpS,bnd,jB]
   |none=>
    rw[hp] at h2
    dsimp only at h2 ⊢
    rw[List.nil_append] at h2
    rcases h2 with⟨o,t,f,z,rfl,h3,h4,h5⟩|⟨o,t,f,z,rfl,h3,h4,h5⟩
    ·dsimp only
     rw[dF (by omega),cF,dF (by omega),cF,bnd,jN,lex1_eq (by omega),bnd,h3]
    dsimp only
    have hwb:bC n t 36=some ((),t++[36]):=wrB (n:=n) (a:=t) 36 (by omega)
    rw[dF (by omega),cF,dT rfl,cT,hwb,bnd,bnd,jN,lex1_eq (by omega),bnd,h3]
  rw[dT (by omega),cT,if_neg h]
end Go.Proofs.YtkopljikappieaaGreatDoor
end
section
namespace Go.Proofs.YtkopljikappieaaGreatDoor
open Go Go.Vc
end Go.Proofs.YtkopljikappieaaGreatDoor
end
section
namespace Go.Proofs.YtkopljikappieaaGreatDoor
open Go Go.Vc
theorem hole_ref {n:Nat} {s:Bs} (hn:s.length<n) (hs:s.length<1000000):lE n s=some (holeS s):=by
 unfold lE holeS
 rw[dot_ref hn hs,bnd]
 cases h:s.findIdx? (· ==46) with
 |none=>
  show(bif decide ((-1:Int)<0) then _ else _)=some (_,nameS s)
  rw[dT (by omega),cT,kQ hn hs,bnd]
 |some i=>
  have hi:i<s.length:=(List.findIdx?_eq_some_iff_getElem.1 h).1
  dsimp only
  have e: ((i:Nat):Int)+1=((i+1:Nat):Int):=by omega
  rw[dF (by omega),cF,aP (by omega),aI (by omega) (by omega),aP (by omega),aP (by omega),Int.toNat_natCast,kQ (by rw[List.length_take];omega) (by rw[List.length_take];omega),bnd]
  cases nameS (s.take i) with
  |true=>rw[cT,aI (by omega) (by omega),aP (by omega),e,Int.toNat_natCast,attr_ref (by rw[List.length_drop];omega) (by rw[List.length_drop];omega),bnd,Bool.true_and]
  |false=>rw[cF,e,Int.toNat_natCast,Bool.false_and]
def RefPost (s:Bs) (k:Nat) (out:List TG0) (text:Bs) (b:Sum Int (List TG0×Bs)):Prop:=
 match (prs (s.drop k)).2 with
 |some p=>b=.inl (((k+p:Nat):Int))
 |none=>∃o t,b=.inr (o,t)∧o++fl t=out++mrg text (prs (s.drop k)).1∧t.length≤s.length∧o.length≤s.length
theorem RefPost.of_add {s:Bs} {k j:Nat} {it:It} {out out':List TG0} {text text':Bs} {b:Sum Int (List TG0×Bs)}
 (h:prs (s.drop k)=add it j (prs (s.drop (k+j)))) (hm: ∀l,out'++mrg text' l=out++mrg text (it::l)) (hp:RefPost s (k+j) out' text' b):RefPost s k out text b:=by
 unfold RefPost at hp ⊢
 rw[h]
 unfold add
 cases hq: (prs (s.drop (k+j))).2 with
 |some p=>
  rw[hq] at hp
  show b=_
  rw[hp]
  dsimp only
  congr 2
  omega
 |none=>
  rw[hq] at hp
  show ∃o t,_
  obtain⟨o,t,h1,h2,h3,h4⟩:=hp
  exact⟨o,t,h1,by rw[h2,hm],h3,h4⟩
theorem qa {n:Nat} {s:Bs} (hs:s.length<100000) (hn:s.length<n): ∀ (m k:Nat) (out:List TG0) (text:Bs),s.length≤k+m→k≤s.length→text.length≤k→out.length≤k→∀q,m<q→
 ∃b,au (kh n s) q (out,text,(k:Int))=some b∧RefPost s k out text b
 |m,k,out,text,hm,hk,ht,ho,q,hq=>by
  obtain⟨q,rfl⟩: ∃r,q=r+1:=⟨q-1,by omega⟩
  rw[au,kh]
  by_cases hlt:k<s.length
  ·obtain⟨m,rfl⟩: ∃r,m=r+1:=⟨m-1,by omega⟩
   dsimp only
   rw[dT (by omega: (k:Int)<(s.length:Int)),cT,start_ref hlt (by omega),bnd]
   cases hst:isStart s k with
   |false=>
    rw[nF,cT,dQ 0 hlt,bnd,aP (by omega),aI (by omega) (by omega),bnd]
    have e: (k:Int)+1=((k+1:Nat):Int):=by omega
    dsimp only
    rw[e]
    obtain⟨b,h1,h2⟩:=qa hs hn m (k+1) out (text++[s.getD k 0]) (by omega) (by omega) (by rw[List.length_append,List.length_singleton];omega) (by omega) q (by omega)
    exact⟨b,h1,RefPost.of_add (prs_at hlt hst) (λl=>rfl) h2⟩
   |true=>
    obtain⟨h1,h2⟩:=start_shape hlt hst
    have e: (k:Int)+2=((k+2:Nat):Int):=by omega
    rw[nT,cF,aI (by omega) (by omega),e]
    have hsh:=shut_ref (n:=n) (k:=k+2) (s:=s) (by omega) hn (by omega)
    cases hf: (s.drop (k+2)).findIdx? (· ==125) with
    |none=>
     rw[hf] at hsh
     rw[hsh,bnd]
     dsimp only
     rw[dT (by omega),cT,bnd]
     refine⟨_,rfl,?_⟩
     unfold RefPost
     rw[h2,pR hf]
     show _=_
     simp
    |some i=>
     have hi:i<(s.drop (k+2)).length:=(List.findIdx?_eq_some_iff_getElem.1 hf).1
     rw[List.length_drop] at hi
     obtain⟨E,hE⟩: ∃E,k+2+i=E:=⟨_,rfl⟩
     rw[hf] at hsh
     dsimp only at hsh
     rw[hE] at hsh
     rw[hsh,bnd]
     have e8: (s.take E).drop (k+2)=(s.drop (k+2)).take i:=by rw[←hE,ni]
     rw[dF (by omega),cF,aI (by omega) (by omega),dQ 0 (by omega),bnd,byteEq _ 33 33 rfl]
     have e3: ((E:Int)+1)=((k+ (i+3):Nat):Int):=by omega
     have e4:s.drop (k+ (i+3))=(s.drop (k+2)).drop (i+1):=by
      rw[List.drop_drop]
      congr 1
      omega
     have e5: (s.drop (k+2)).head?=some (s.getD (k+2) 0):=by
      rw[List.head?_drop]
      simp[List.getD,show k+2<s.length by omega]
     by_cases h33:s.getD (k+2) 0=33
     ·have h33': ((s.drop (k+2)).take i).head?=some 33:=(tv hf).2 (by rw[e5,h33])
      rw[h33,beq_self_eq_true,cT,aP (by simp only[List.length_cons,List.length_nil];omega),aI (by omega) (by omega),aI (by omega) (by omega),aP (by omega)]
      have e6: (k:Int)+3=((k+3:Nat):Int):=by omega
      have e7: (s.take (k+ (i+3))).drop (k+3)=((s.drop (k+2)).take i).drop 1++[125]:=by
       have g:=(List.findIdx?_eq_some_iff_getElem.1 hf).2.1
       have g2: (s.drop (k+2)).take (i+1)=(s.drop (k+2)).take i++[125]:=by
        rw[List.take_add_one,List.getElem?_eq_getElem (by rw[List.length_drop];omega)]
        simp only[beq_iff_eq] at g
        rw[g]
        rfl
       have hi0:i≠0:=λh0=>by
        rw[h0] at h33'
        simp at h33'
       rw[show k+ (i+3)=(k+2)+ (i+1) by omega,show k+3=(k+2)+1 by omega,←List.drop_drop,ni,g2,List.drop_append_of_le_length (by rw[List.length_take,List.length_drop];omega)]
      rw[e3,e6,Int.toNat_natCast,Int.toNat_natCast,e7]
      have hl7: (((s.drop (k+2)).take i).drop 1).length≤i-1:=by
       rw[List.length_drop,List.length_take]
       omega
      have hi0:i≠0:=λh0=>by
       rw[h0] at h33'
       simp at h33'
      rw[aP (by simp only[List.length_append,List.length_cons,List.length_nil];omega),aI (by omega) (by omega),bnd]
      dsimp only
      obtain⟨b,g1,g2⟩:=qa hs hn m (k+ (i+3)) out ((text++[36,123])++(((s.drop (k+2)).take i).drop 1++[125])) (by omega) (by omega) (by simp only[List.length_append,List.length_cons,List.length_nil];omega) (by omega) q (by omega)
      refine⟨b,g1,RefPost.of_add (it:=.tx (36::123::((s.drop (k+2)).take i).drop 1++[125])) (by rw[h2,rv hf h33',e4]) (λl=>?_) g2⟩
      simp[mrg]
     have h33': ((s.drop (k+2)).take i).head?≠some 33:=λh=>by
      have:=(tv hf).1 h
      rw[e5] at this
      exact h33 (by simpa using this)
     rw[show(s.getD (k+2) 0== (33:UInt8))=false by simpa using h33,cF,aI (by omega) (by omega),aP (by omega),Int.toNat_natCast,Int.toNat_natCast,e8,hole_ref (by rw[List.length_take,List.length_drop];omega) (by rw[List.length_take,List.length_drop];omega),bnd]
     cases hh: (holeS ((s.drop (k+2)).take i)).2 with
     |false=>
      rw[nF,cT,bnd]
      refine⟨_,rfl,?_⟩
      unfold RefPost
      rw[h2,pU hf h33' hh]
      show _=_
      simp
     |true=>
      rw[nT,cF]
      have hfl: ((bif(decide ((0:Int)<((text.length:Nat):Int))) then
       (aL ((out.length+1)*88≤140737488355328)<|
       some ((out++[(⟨(0:Int),text,(0:Int),([]:Bs),([]:Bs),([]:List TG0)⟩:TG0)],([]:Bs))))
       else
        some ((out,text)):Option (List TG0×Bs)))=some (out++fl text,[]):=by
       unfold fl
       by_cases h0:text=[]
       ·subst h0
        simp
       have:0<text.length:=List.length_pos_iff.2 h0
       rw[dT (by omega),cT,aP (by omega),if_neg h0]
       rfl
      rw[hfl,bnd]
      dsimp only
      have hfl2: (fl text).length≤1:=by unfold fl;split<;>simp
      rw[aP (by rw[List.length_append];omega),aI (by omega) (by omega),bnd,e3]
      dsimp only
      obtain⟨b,g1,g2⟩:=qa hs hn m (k+ (i+3)) ((out++fl text)++[(holeS ((s.drop (k+2)).take i)).1]) [] (by omega) (by omega) (by simp) (by simp only[List.length_append,List.length_cons,List.length_nil];omega) q (by omega)
      refine⟨b,g1,RefPost.of_add (it:=.ho (holeS ((s.drop (k+2)).take i)).1) (by rw[h2,pS hf h33' hh,e4]) (λl=>?_) g2⟩
      simp[mrg]
  dsimp only
  rw[dF (by omega),cF,bnd]
  refine⟨_,rfl,?_⟩
  unfold RefPost
  rw[List.drop_eq_nil_of_le (by omega),pT]
  exact⟨out,text,rfl,rfl,by omega,by omega⟩
theorem lex_ref {n:Nat} {s:Bs} (hs:s.length<100000) (hn:s.length+5<n):my n s=some (lexS s):=by
 unfold my lexS
 rw[oy (by omega) (by omega) (by omega),bnd]
 cases Lib.validD s with
 |false=>rfl
 |true=>
  rw[nT,cF,if_pos rfl]
  by_cases h:s.length≤4096
  ·rw[dF (by omega),cF,if_pos h]
   obtain⟨b,h1,h2⟩:=qa (n:=n) hs (by omega) s.length 0 [] [] (by omega) (by omega) (by simp) (by simp) n (by omega)
   rw[show((0:Nat):Int)=0 from rfl] at h1
   rw[h1,bnd]
   unfold RefPost at h2
   rw[List.drop_zero] at h2
   cases hp: (prs s).2 with
   |some p=>
    rw[hp] at h2
    dsimp only at h2
    subst h2
    dsimp only
    rw[Nat.zero_add]
   |none=>
    rw[hp] at h2
    obtain⟨o,t,rfl,h3,h4,h5⟩:=h2
    dsimp only
    rw[List.nil_append] at h3
    rw[←h3]
    unfold fl
    by_cases h0:t=[]
    ·subst h0
     simp
    have:0<t.length:=List.length_pos_iff.2 h0
    rw[dT (by omega),cT,aP (by omega),if_neg h0]
    rfl
  rw[dT (by omega),cT,if_neg h]
end Go.Proofs.YtkopljikappieaaGreatDoor
end
section
namespace Go.Proofs.YtkopljikappieaaGreatDoor
open Go Go.Vc
theorem idx_split (c:UInt8): ∀ {q:Bs} {i:Nat},q.findIdx? (· ==c)=some i→q=q.take i++c::q.drop (i+1)∧(∀x∈q.take i,x≠c)∧(q.take i).length=i
 |q,i,h=>by
  obtain⟨h1,h2,h3⟩:=List.findIdx?_eq_some_iff_getElem.1 h
  have h4:q[i]=c:=by simpa using h2
  refine⟨?_,λx hx e=>?_,by rw[List.length_take];omega⟩
  ·conv=>lhs;rw[←List.take_append_drop i q,List.drop_eq_getElem_cons h1,h4]
  obtain⟨j,hj,rfl⟩:=List.mem_iff_getElem.1 hx
  rw[List.length_take] at hj
  have:=h3 j (by omega)
  rw[List.getElem_take] at e
  rw[e] at this
  simp at this
theorem qE (c:UInt8) {a b:Bs} (h: ∀x∈a,x≠c): (a++c::b).findIdx? (· ==c)=some a.length:=by
 rw[List.findIdx?_eq_some_iff_getElem]
 refine⟨by simp,by simp,λj hj=>?_⟩
 have: (a++c::b)[j]'(by simp;omega)=a[j]:=by rw[List.getElem_append_left hj]
 rw[this]
 simpa using h _ (List.getElem_mem hj)
theorem prs_esc' {a b:Bs} (h: ∀x∈a,x≠125) (h2:a.head?=some 33):prs (36::123::(a++125::b))=add (.tx (36::123::a.drop 1++[125])) (a.length+3) (prs b):=by
 have:=rv (r:=a++125::b) (qE 125 h) (by rw[List.take_left];exact h2)
 rw[this,List.take_left]
 congr 2
 rw[←List.drop_drop,List.drop_left]
 rfl
theorem tL {a b:Bs} (h: ∀x∈a,x≠125) (h2:a.head?≠some 33) (h3: (holeS a).2=true):prs (36::123::(a++125::b))=add (.ho (holeS a).1) (a.length+3) (prs b):=by
 have:=pS (r:=a++125::b) (qE 125 h) (by rw[List.take_left];exact h2) (by rw[List.take_left];exact h3)
 rw[this,List.take_left]
 congr 2
 rw[←List.drop_drop,List.drop_left]
 rfl
theorem prs_cases (c:UInt8) (r:Bs): (¬ (c=36∧r.head?=some 123)∧prs (c::r)=add (.tx [c]) 1 (prs r))∨
 ∃q,c=36∧r=123::q∧((q.findIdx? (· ==125)=none∧prs (c::r)=([],some 0))∨∃a b,q=a++125::b∧(∀x∈a,x≠125)∧
  ((a.head?=some 33∧prs (c::r)=add (.tx (36::123::a.drop 1++[125])) (a.length+3) (prs b))∨
   (a.head?≠some 33∧(holeS a).2=true∧prs (c::r)=add (.ho (holeS a).1) (a.length+3) (prs b))∨
   (a.head?≠some 33∧(holeS a).2=false∧prs (c::r)=([],some 0)))):=by
 by_cases h:c=36∧r.head?=some 123
 · right
   obtain⟨rfl,h2⟩:=h
   cases r with
   |nil=>cases h2
   |cons y q=>
    simp only[List.head?_cons,Option.some.injEq] at h2
    subst h2
    refine⟨q,rfl,rfl,?_⟩
    cases hf:q.findIdx? (· ==125) with
    |none=>exact .inl ⟨rfl,pR hf⟩
    |some i=>
     right
     obtain⟨h3,h4,h5⟩:=idx_split 125 hf
     refine⟨q.take i,q.drop (i+1),h3,h4,?_⟩
     by_cases h6: (q.take i).head?=some 33
     · left
       refine⟨h6,?_⟩
       rw[rv hf h6,h5]
     right
     cases h7: (holeS (q.take i)).2 with
     |true=>exact .inl ⟨h6,rfl,by rw[pS hf h6 h7,h5]⟩
     |false=>exact .inr ⟨h6,rfl,pU hf h6 h7⟩
 exact .inl ⟨h,pf h⟩
theorem prs_ind {P:Bs→Prop} (nil:P []) (ch: ∀c r,¬ (c=36∧r.head?=some 123)→P r→P (c::r)) (bad: ∀q,q.findIdx? (· ==125)=none→P (36::123::q))
 (esc: ∀a b,(∀x∈a,x≠125)→a.head?=some 33→P b→P (36::123::(a++125::b)))
 (hole: ∀a b,(∀x∈a,x≠125)→a.head?≠some 33→(holeS a).2=true→P b→P (36::123::(a++125::b)))
 (none: ∀a b,(∀x∈a,x≠125)→a.head?≠some 33→(holeS a).2=false→P (36::123::(a++125::b))): ∀s,P s:=by
 have key: ∀ (m:Nat) (s:Bs),s.length≤m→P s:=by
  intro m
  induction m with
  |zero=>
   intro s hs
   cases s with
   |nil=>exact nil
   |cons c r=>simp at hs
  |succ m ih=>
   intro s hs
   cases s with
   |nil=>exact nil
   |cons c r=>
    rw[List.length_cons] at hs
    rcases prs_cases c r with⟨h1,_⟩|⟨q,rfl,rfl,⟨h1,_⟩|⟨a,b,rfl,h1,⟨h2,_⟩|⟨h2,h3,_⟩|⟨h2,h3,_⟩⟩⟩
    ·exact ch c r h1 (ih r (by omega))
    ·exact bad q h1
    ·exact esc a b h1 h2 (ih b (by simp only[List.length_cons,List.length_append] at hs;omega))
    ·exact hole a b h1 h2 h3 (ih b (by simp only[List.length_cons,List.length_append] at hs;omega))
    exact none a b h1 h2 h3
 exact λs=>key s.length s (Nat.le_refl _)
theorem tM {a b:Bs} (h: ∀x∈a,x≠125) (h2:a.head?≠some 33) (h3: (holeS a).2=false):prs (36::123::(a++125::b))=([],some 0):=
 pU (r:=a++125::b) (qE 125 h) (by rw[List.take_left];exact h2) (by rw[List.take_left];exact h3)
theorem prs_len (s:Bs): (prs s).1.length≤s.length:=by
 induction s using prs_ind with
 |nil=>simp[pT]
 |ch c r h ih=>rw[pf h];unfold add;simp only[List.length_cons];omega
 |bad q h=>rw[pR h];simp
 |esc a b h h2 ih=>rw[prs_esc' h h2];unfold add;simp only[List.length_cons,List.length_append];omega
 |hole a b h h2 h3 ih=>rw[tL h h2 h3];unfold add;simp only[List.length_cons,List.length_append];omega
 |none a b h h2 h3=>rw[tM h h2 h3];simp
theorem mrg_len: ∀ (l:List It) (b:Bs),(mrg b l).length≤2*l.length+1
 |[],b=>by unfold mrg;have:=fl_len b;simp;exact this
 |.tx a::r,b=>by rw[mrg];have:=mrg_len r (b++a);simp only[List.length_cons];omega
 |.ho x::r,b=>by
  rw[mrg]
  have:=mrg_len r []
  have:=fl_len b
  simp only[List.length_append,List.length_cons]
  omega
theorem lexS_len (s:Bs): (lexS s).1.length≤10000:=by
 unfold lexS
 split
 ·split
  ·rename_i h
   cases (prs s).2 with
   |some p=>simp
   |none=>
    have h1:=mrg_len (prs s).1 []
    have h2:=prs_len s
    dsimp only
    omega
  simp
 simp
def Flat (x:TG0):Prop:=x.fL=[]
theorem holeS_flat (s:Bs):Flat (holeS s).1:=by
 unfold holeS Flat
 split<;>rfl
def FlatIt:It→Prop
 |.tx _=>True
 |.ho x=>Flat x
theorem prs_flat (s:Bs): ∀i∈ (prs s).1,FlatIt i:=by
 induction s using prs_ind with
 |nil=>simp[pT]
 |ch c r h ih=>rw[pf h];exact List.forall_mem_cons.2 ⟨trivial,ih⟩
 |bad q h=>rw[pR h];simp
 |esc a b h h2 ih=>rw[prs_esc' h h2];exact List.forall_mem_cons.2 ⟨trivial,ih⟩
 |hole a b h h2 h3 ih=>rw[tL h h2 h3];exact List.forall_mem_cons.2 ⟨holeS_flat _,ih⟩
 |none a b h h2 h3=>rw[tM h h2 h3];simp
theorem fl_flat (b:Bs): ∀x∈fl b,Flat x:=by
 unfold fl
 split
 ·simp
 intro x hx
 simp at hx
 subst hx
 rfl
theorem sc: ∀ (l:List It) (b:Bs),(∀i∈l,FlatIt i)→∀x∈mrg b l,Flat x
 |[],b,_=>fl_flat b
 |.tx a::r,b,h=>by rw[mrg];exact sc r (b++a) λi hi=>h i (by simp[hi])
 |.ho y::r,b,h=>by
  rw[mrg]
  intro x hx
  rcases List.mem_append.1 hx with hx|hx
  ·exact fl_flat b x hx
  rcases List.mem_cons.1 hx with rfl|hx
  ·exact h (.ho x) (by simp)
  exact sc r [] (λi hi=>h i (by simp[hi])) x hx
theorem lexS_flat (s:Bs): ∀x∈ (lexS s).1,Flat x:=by
 unfold lexS
 split
 ·split
  ·cases (prs s).2 with
   |some p=>simp
   |none=>exact sc _ _ (prs_flat s)
  simp
 simp
end Go.Proofs.YtkopljikappieaaGreatDoor
end
section
namespace Go.Proofs.YtkopljikappieaaGreatDoor
open Go Go.Vc
def run:Bs→List It→List TG0×Bs
 |b,[]=>([],b)
 |b,.tx a::r=>run (b++a) r
 |b,.ho x::r=>(fl b++x::(run [] r).1,(run [] r).2)
def NoAdj:List TG0→Prop
 |[]=>True
 |[_]=>True
 |x::y::r=>¬ (x.ab=0∧y.ab=0)∧NoAdj (y::r)
theorem NoAdj.at: ∀ {l:List TG0} (k:Nat),NoAdj l→k+1<l.length→¬ ((l.getD k (txE [])).ab=0∧(l.getD (k+1) (txE [])).ab=0)
 |[],k,_,h=>by simp at h
 |[_],k,_,h=>by simp at h
 |x::y::r,0,h,_=>h.1
 |x::y::r,k+1,h,hk=>NoAdj.at (l:=y::r) k h.2 (by simpa using hk)
end Go.Proofs.YtkopljikappieaaGreatDoor
end
end
section
namespace Go.Proofs.YtkopljikappieaaGreatDoor
open Go Go.Vc Go.RowKit
def ll (n:Nat):Option (List (Bs× (Option Nat))):=
 some (bJ (bJ (bJ (bJ (bJ (bJ ([]:List (Bs× (Option Nat))) [82,101,102] (some 75)) [71,101,116,65,116,116] (some 77)) [83,117,98] (some 80)) [73,102] (some 82)) [74,111,105,110] (some 83)) [83,101,108,101,99,116] (some 84))
theorem rk (n:Nat) (M:Mem) (r: (List (Bs× (Option Nat)))) (hF:ll n=some r):Ok Tryz.prog M 34 [] (λM' v=>∃ (b0:Nat),v=.map (some b0)∧M' b0=some (sR S fnV r)):=by
 unfold ll at hF
 intro M1 hM0 w0 H w p0
 refine Re 3 Tryz.func34 rfl λa0 f0=>RR (Ye f0 1 λ_ f=>RR (pr S fnV f p0 kr kr rfl rfl rfl λzz1 W1 N1 _ f=>gC (ek:=S) (ev:=fnV) (m:=([]:List (Bs× (Option Nat)))) (k:=[82,101,102]) (v:=(some 75)) (kt:=9) (et:=51) f N1 kr kr rfl (.inr rfl) kr kr kr kr (strKey kr) λW2 N2 _ f=>gC (ek:=S) (ev:=fnV) (m:=bJ ([]:List (Bs× (Option Nat))) [82,101,102] (some 75)) (k:=[71,101,116,65,116,116]) (v:=(some 77)) (kt:=9) (et:=51) f N2 kr kr rfl (.inr rfl) kr kr kr kr (strKey kr) λW3 N3 _ f=>gC (ek:=S) (ev:=fnV) (m:=bJ (bJ ([]:List (Bs× (Option Nat))) [82,101,102] (some 75)) [71,101,116,65,116,116] (some 77)) (k:=[83,117,98]) (v:=(some 80)) (kt:=9) (et:=51) f N3 kr kr rfl (.inr rfl) kr kr kr kr (strKey kr) λW4 N4 _ f=>gC (ek:=S) (ev:=fnV) (m:=bJ (bJ (bJ ([]:List (Bs× (Option Nat))) [82,101,102] (some 75)) [71,101,116,65,116,116] (some 77)) [83,117,98] (some 80)) (k:=[73,102]) (v:=(some 82)) (kt:=9) (et:=51) f N4 kr kr rfl (.inr rfl) kr kr kr kr (strKey kr) λW5 N5 _ f=>gC (ek:=S) (ev:=fnV) (m:=bJ (bJ (bJ (bJ ([]:List (Bs× (Option Nat))) [82,101,102] (some 75)) [71,101,116,65,116,116] (some 77)) [83,117,98] (some 80)) [73,102] (some 82)) (k:=[74,111,105,110]) (v:=(some 83)) (kt:=9) (et:=51) f N5 kr kr rfl (.inr rfl) kr kr kr kr (strKey kr) λW6 N6 _ f=>gC (ek:=S) (ev:=fnV) (m:=bJ (bJ (bJ (bJ (bJ ([]:List (Bs× (Option Nat))) [82,101,102] (some 75)) [71,101,116,65,116,116] (some 77)) [83,117,98] (some 80)) [73,102] (some 82)) [74,111,105,110] (some 83)) (k:=[83,101,108,101,99,116]) (v:=(some 84)) (kt:=9) (et:=51) f N6 kr kr rfl (.inr rfl) kr kr kr kr (strKey kr) λW7 N7 _ f=>Ye f 2 λ_ f=>wp_ret ?_))
 obtain⟨V1,J1,N8,B1⟩:=N7.fzObj
 refine am f rfl (Lk 0 (.map (some zz1))) ?_
 cases sI hF
 exact⟨_,rfl,_,J1,N8.kr,⟨zz1,rfl,B1⟩⟩
def callL:List (Bs×Option Nat):=[([82,101,102],some 75),([71,101,116,65,116,116],some 77),([83,117,98],some 80),([73,102],some 82),([74,111,105,110],some 83),([83,101,108,101,99,116],some 84)]
theorem ti (n:Nat):ll n=some callL:=rfl
theorem callL_none {k:Bs} (h1: ¬k=[82,101,102]) (h2: ¬k=[71,101,116,65,116,116]) (h3: ¬k=[83,117,98]) (h4: ¬k=[73,102]) (h5: ¬k=[74,111,105,110]) (h6: ¬k=[83,101,108,101,99,116]):ew callL k=none:=by
 unfold callL
 simp only[ew,if_neg (Ne.symm h1),if_neg (Ne.symm h2),if_neg (Ne.symm h3),if_neg (Ne.symm h4),if_neg (Ne.symm h5),if_neg (Ne.symm h6)]
def h_fail (_:Nat) (e:Int) (at_:Bs):Option (Sum (Int×Bs) Unit):=some (.inl (e,at_))
theorem tu (n:Nat) (M:Mem) (e:Int) (at_:Bs) (r:Sum (Int×Bs) Unit) (hF:h_fail n e at_=some r):OkX Tryz.prog M 72 [iL e,S at_] 78 r (λ_=>λ_ v=>v=.tuple #[]):=by
 obtain rfl:=Option.some.inj hF
 intro M2 hM w0 H w p0
 refine Re 8 Tryz.func72 rfl (λa0 f0=>?_)
 refine ay ?_
 refine V_run f0 4 kr (λa1 f1=>?_)
 refine W_panic (v:=.iface 78 (.agg #[iL e,S at_])) f1 kr kr kr ?_
 exact aV f1 ⟨M2,Mem.le_refl _,p0,rfl⟩
end Go.Proofs.YtkopljikappieaaGreatDoor
end
