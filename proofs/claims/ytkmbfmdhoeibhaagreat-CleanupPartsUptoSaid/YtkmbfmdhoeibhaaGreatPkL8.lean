/-
  Texts of this claim, packed (what nothing names is left out): K7, L1, LP, L2, L3, LPo, L3w, Op. Own work, partly printed by own programs. No condition.
-/
import Derived.Test.YtkmbfmdhoeibhaaGreatPkL7
import Derived.Test.YtkmbfmdhoeibhaaGreatPkL2
import Derived.Test.YtkmbfmdhoeibhaaGreatPkL1
import Derived.Test.YtkmbfmdhoeibhaaGreatRows
set_option linter.unusedVariables false
set_option linter.unusedSimpArgs false
set_option maxHeartbeats 2000000
section
namespace Go.Proofs.YtkmbfmdhoeibhaaGreat
open Go Go.Vc Go.RowKit
inductive Blk (l:LL) (st:List Int):Nat→Prop
 |base {i:Nat}:i<st.length→blocksB (st.getD i 0)=true→Blk l st i
 |step {i:Nat} {x:Int}:i<st.length→st.getD i 0=1→x∈l.getD i []→Blk l st x.toNat→Blk l st i
open Classical in noncomputable def settledL (l:LL) (st:List Int):List Int:=(List.range st.length).map λi=>if st.getD i 0=1∧Blk l st i then 5 else st.getD i 0
theorem zc (l:LL) (st:List Int): (settledL l st).length=st.length:=by simp[settledL]
theorem settled_at {l:LL} {st:List Int} {i:Nat} (hi:i<st.length): (st.getD i 0=1∧Blk l st i∧(settledL l st).getD i 0=5)∨(¬ (st.getD i 0=1∧Blk l st i)∧(settledL l st).getD i 0=st.getD i 0):=by
 classical
 have h: (settledL l st).getD i 0=if st.getD i 0=1∧Blk l st i then 5 else st.getD i 0:=by
  simp[settledL,hi]
 by_cases hb:st.getD i 0=1∧Blk l st i
 ·exact .inl ⟨hb.1,hb.2,by rw[h,if_pos hb]⟩
 exact .inr ⟨hb,by rw[h,if_neg hb]⟩
structure SI (l:LL) (st out:List Int):Prop where
 len:out.length=st.length
 at_: ∀i,i<st.length→out.getD i 0=st.getD i 0∨(st.getD i 0=1∧out.getD i 0=5∧Blk l st i)
theorem SI.start (l:LL) (st:List Int):SI l st st:=⟨rfl,λ_ _=>.inl rfl⟩
theorem vw {out:List Int} {i j:Nat} {v:Int} (hi:i<out.length): (out.set i v).getD j 0=if i=j then v else out.getD j 0:=by
 simp only[List.getD_eq_getElem?_getD,List.getElem?_set]
 by_cases h:i=j
 ·subst h;simp[hi]
 simp[h]
theorem SI.put {l:LL} {st out:List Int} (h:SI l st out) {i:Nat} (hi:i<st.length) (h1:st.getD i 0=1) (hb:Blk l st i):SI l st (out.set i 5):=by
 refine⟨by rw[List.length_set];exact h.len,λj hj=>?_⟩
 rw[vw (by rw[h.len];exact hi)]
 by_cases e:i=j
 ·subst e;rw[if_pos rfl];exact .inr ⟨h1,rfl,hb⟩
 rw[if_neg e];exact h.at_ j hj
theorem SI.blk {l:LL} {st out:List Int} (h:SI l st out) {i:Nat} (hi:i<st.length) (hb:blocksB (out.getD i 0)=true):Blk l st i:=by
 rcases h.at_ i hi with e|⟨_,_,e⟩
 ·exact .base hi (e▸hb)
 exact e
theorem SI.wait {l:LL} {st out:List Int} (h:SI l st out) {i:Nat} (hi:i<st.length) (hb:out.getD i 0=1):st.getD i 0=1:=by
 rcases h.at_ i hi with e|⟨e,_⟩
 ·exact e▸hb
 exact e
theorem SI.done {l:LL} {st out:List Int} (h:SI l st out) (hin: ∀r∈l,∀x∈r,0≤x∧x<st.length) (hl:l.length=st.length)
 (hc: ∀i,i<st.length→out.getD i 0=1→∀x∈l.getD i [],blocksB (out.getD x.toNat 0)=false):out=settledL l st:=by
 have key: ∀i,Blk l st i→i<st.length→blocksB (out.getD i 0)=true:=by
  intro i hb
  induction hb with
  |base hi hb=>
   intro _
   rcases h.at_ _ hi with e|⟨e,_⟩
   ·rw[e];exact hb
   rw[e] at hb;simp[blocksB] at hb
  |@step i x hi h1 hx hbx ih=>
   intro _
   have hxr:=hin _ (tu (l:=l) (by omega)) x hx
   have hb:=ih (by omega)
   rcases h.at_ i hi with e|⟨_,e,_⟩
   ·have:=hc i hi (e.trans h1) x hx
    rw[hb] at this;cases this
   rw[e];rfl
 apply List.ext_getElem (by rw[zc];exact h.len)
 intro i h1 h2
 have hi:i<st.length:=by rw[←h.len];exact h1
 have goal:out.getD i 0=(settledL l st).getD i 0:=by
  rcases settled_at (l:=l) hi with⟨e1,e2,e3⟩|⟨e1,e2⟩
  ·rw[e3]
   rcases h.at_ i hi with e|⟨_,e,_⟩
   ·have:=key i e2 hi
    rw[e,e1] at this
    simp[blocksB] at this
   exact e
  rw[e2]
  rcases h.at_ i hi with e|⟨e3,_,e4⟩
  ·exact e
  exact absurd ⟨e3,e4⟩ e1
 simpa [List.getD,h1,h2] using goal
theorem cnt_set {out:List Int} {i:Nat} (hi:i<out.length):cntI 1 (out.set i 5)≤cntI 1 out∧(out.getD i 0=1→cntI 1 (out.set i 5)<cntI 1 out):=by
 unfold cntI
 rw[List.countP_set hi]
 have e5: ((5:Int)==1)=false:=rfl
 simp only[e5,Bool.false_eq_true,if_false,Nat.add_zero]
 refine⟨by omega,λh=>?_⟩
 have h1:out[i]=1:=by simpa [List.getD,hi] using h
 have:0<out.countP (· ==1):=List.countP_pos_iff.2 ⟨out[i],List.getElem_mem hi,by rw[h1];rfl⟩
 rw[h1]
 simp only[beq_self_eq_true,if_true]
 omega
theorem settle_eq {n:Nat} (l:LL) (st:List Int) (b:Bool) (h:Sm l) (hn:3000000<n):nD n l st b=some (bif mayB l st then settledL (wayL l b) st else [],bif mayB l st then 0 else 2):=by
 unfold nD
 rw[may_eq l st h hn,bnd]
 cases hm:mayB l st with
 |false=>rfl
 |true=>
  have hlen:=h.len
  have hml:=(mayB_in hm).1
  have hW:=h.way b
  have hWl: (wayL l b).length=st.length:=by rw[wayL_len];exact hml
  have hin:=way_in (b:=b) hm
  simp only[nT,Vc.cF,cT]
  rw[ways_eq l b h,bnd]
  have hcl:dw n st=some st:=cO (by omega)
  rw[hcl,bnd]
  obtain⟨r,h1,h2⟩:=loop_meas (n:=n) (step:=mI n (wayL l b)) (s0:=st) (λout=>SI (wayL l b) st out) (λout=>cntI 1 out) (λout=>out=settledL (wayL l b) st) (SI.start _ st) (λout hI=>by
   have hol:=hI.len
   unfold mI
   rw[overB_eq (wayL l b) out hW (by omega) (by rw[hol];exact hin) hn,bnd]
   have hmem: ∀x,x∈sel (pickF anyQ blocksB (wayL l b) out) out.length→∃i:Nat,x=i∧i<st.length∧out.getD i 0=1∧Blk (wayL l b) st i:=λx hx=>by
    obtain⟨i,e,hi,hp⟩:=xT.1 hx
    simp only[pickF,anyQ,Bool.and_eq_true,decide_eq_true_eq,List.any_eq_true] at hp
    obtain⟨hp1,y,hy,hp2⟩:=hp
    have hyr:=hin _ (tu (l:=wayL l b) (by omega)) y hy
    exact⟨i,e,by omega,hp1,.step (by omega) (hI.wait (by omega) hp1) hy (hI.blk (by omega) hp2)⟩
   by_cases h0: (sel (pickF anyQ blocksB (wayL l b) out) out.length).length=0
   ·right
    refine⟨out,by rw[dT (by omega)];rfl,hI.done hin hWl λi hi h1 x hx=>?_⟩
    cases hb:blocksB (out.getD x.toNat 0) with
    |false=>rfl
    |true=>
     exfalso
     have: (i:Int)∈sel (pickF anyQ blocksB (wayL l b) out) out.length:=xT.2 ⟨i,rfl,by omega,by
      simp only[pickF,anyQ,Bool.and_eq_true,decide_eq_true_eq,List.any_eq_true]
      exact⟨h1,x,hx,hb⟩⟩
     rw[List.eq_nil_of_length_eq_zero h0] at this
     cases this
   left
   have hsl:=Ab (pickF anyQ blocksB (wayL l b) out) out.length
   generalize hX:sel (pickF anyQ blocksB (wayL l b) out) out.length=X at*
   obtain⟨r,g1,g2⟩:=cY (n:=n) (step:=jt n X) (s0:=(out,(0:Int))) (λk s=>s.2=(k:Int)∧SI (wayL l b) st s.1∧cntI 1 s.1≤cntI 1 out∧(k=0→s.1=out)∧(0<k→cntI 1 s.1<cntI 1 out))
    (λr=>SI (wayL l b) st r∧cntI 1 r<cntI 1 out) X.length ⟨rfl,hI,Nat.le_refl _,λ_=>rfl,λh=>absurd h (Nat.lt_irrefl 0)⟩ (λk s hk ⟨i1,i2,i3,i4,i5⟩=>by
     left
     obtain⟨s1,s2⟩:=s
     simp only at i1 i2 i3 i4 i5
     subst i1
     obtain⟨i,e,hi,ho,hb⟩:=hmem _ (AC hk)
     have hsl:=i2.len
     refine⟨(s1.set i 5,(k:Int)+1),?_,by simp,i2.put hi (hI.wait hi ho) hb,?_,λh=>by omega,λ_=>?_⟩
     ·unfold jt
      simp only[dT (by omega: (k:Int)<X.length),cT,gY 0 hk,bnd]
      rw[e,gY 0 (by omega),bnd,bF (by omega) (by omega)];rfl
     ·exact Nat.le_trans (cnt_set (by omega)).1 i3
     rcases Nat.eq_zero_or_pos k with h0|h0
     ·have e0:=i4 h0
      simp only at e0 ⊢
      rw[e0]
      exact(cnt_set (by omega)).2 ho
     exact Nat.lt_of_le_of_lt (cnt_set (by omega)).1 (i5 h0))
    (λs ⟨i1,i2,i3,i4,i5⟩=>⟨s.1,by unfold jt;simp[i1],i2,i5 (by omega)⟩) (by omega)
   refine⟨r,?_,g2.1,g2.2⟩
   rw[dF (by omega: ¬ (X.length:Int)=0)]
   simp only[Vc.cF]
   rw[g1];rfl) (by have:=cntI_all 1 st;omega)
  rw[h1,bnd,h2]
theorem mayB_of {l:LL} {st:List Int} (h1:l.length=st.length) (h2: ∀i,i<st.length→0≤st.getD i 0∧st.getD i 0≤5) (h3: ∀r∈l,∀x∈r,0≤x∧x<l.length):mayB l st=true:=by
 refine mayB_yes h1 λi hi=>rowOk_yes (by have:=h2 i (by omega);omega) ?_
 rw[List.any_eq_false]
 intro x hx
 have:=h3 _ (tu hi) x hx
 simp;omega
theorem leans_at {l:List TD0} {R:LL} (h:LeansOf l R) {r:List Int} (hr:r∈R): ∃i,i<l.length∧R.getD i []=r:=by
 obtain⟨i,hi,rfl⟩:=List.getElem_of_mem hr
 exact⟨i,h.len▸hi,by simp[List.getD,hi]⟩
theorem leans_in {l:List TD0} {R:LL} (h:LeansOf l R): ∀r∈R,∀x∈r,0≤x∧x<R.length:=by
 intro r hr x hx
 obtain⟨i,hi,rfl⟩:=leans_at h hr
 have:=hits_in ((h.row i hi x).1 hx)
 rw[h.len];exact this
theorem leans_sm {l:List TD0} {R:LL} (h:LeansOf l R) (hl:l.length≤3000000):Sm R:=⟨by rw[h.len];omega,λr hr=>by
 obtain⟨i,hi,rfl⟩:=leans_at h hr
 have:=h.sz i hi
 omega⟩
variable {n:Nat}
theorem find_at {α:Type} {p:α→Bool} {xs:List α} {i:Int} {x:α} (h:am xs i=some x) (hx:p x=true) (hb: ∀y∈xs.take i.toNat,p y=false):xs.find? p=some x:=by
 obtain⟨h0,h1,h2⟩:=dl h
 have e:xs=xs.take i.toNat++x::xs.drop (i.toNat+1):=by
  obtain⟨h3,h4⟩:=List.getElem?_eq_some_iff.1 h2
  rw[←h4,←List.drop_eq_getElem_cons,List.take_append_drop]
 rw[e,List.find?_append,List.find?_eq_none.2 λy hy=>by rw[hb y hy];simp]
 simp[hx]
def ownV (s:TJ0) (k:Bs):Option TW0:=s.aT.find? λo=>decide (o.ci=k)
def ownR (s:TJ0) (k:Bs):TW0×Bool:=match ownV s k with|some o=>(o,true)|none=>(xW,false)
theorem own_find {α:Type} {P:α→Prop} {xs:List α} {p:α→Bool} {step:Int→Option (Lp Int (Sum Int Unit))} (hn:xs.length<n) (hs: ∀s:Int,0≤s→∀ (h:s<xs.length),∀x,am xs s=some x→step s=bif p x then some (.br (.inl s)) else some (.nx (s+1))) (he: ∀s:Int,¬s<xs.length→step s=some (.br (.inr ()))):Tot (au step n (0:Int)) λb=>match b with|.inl i=>∃x,am xs i=some x∧xs.find? p=some x|.inr _=>xs.find? p=none:=by
 refine Tot.lm xs (λs=>s) (λx=>p x=false) (λ_=>True) hn rfl trivial (Q:=λb:Sum Int Unit=>match b with|.inl i=>∃x,am xs i=some x∧xs.find? p=some x|.inr _=>xs.find? p=none) λs h1 _ hm=>?_
 by_cases h2:s<xs.length
 ·obtain⟨x,hx,hk⟩: ∃x,am xs s=some x∧(p x=false→∀y∈xs.take (s+1).toNat,p y=false):=Tot.gm (Q:=λx=>p x=false→∀y∈xs.take (s+1).toNat,p y=false) ⟨h1,h2⟩ λx hx ht h=>ht hm h
  rw[hs s h1 h2 x hx]
  exact Tot.c (λh=>Tot.sb ⟨x,hx,find_at hx h hm⟩) λh=>Tot.sn ⟨h2,rfl,hk h,trivial⟩
 rw[he s h2]
 exact Tot.sb (List.find?_eq_none.2 λy hy=>by rw[cx h2 hm y hy];simp)
theorem own_pg {s:TJ0} {k:Bs} (hn:10000000000001<n) (hs:s.aT.length≤100):jN n s k=some (ownR s k):=by
 suffices h:Tot (jN n s k) λr=>r=ownR s k by
  obtain⟨r,h1,h2⟩:=h
  rw[h1,h2]
 unfold jN dq
 refine Tot.b (Tot.b ((own_find (P:=λ_=>True) (xs:=s.aT) (p:=λo=>decide (o.ci=k)) (by omega) (λt h0 h1 x hx=>?_) λt h1=>?_).m λb hb=>?_))
 ·unfold cV vu
  rw[dT h1,cT,hx,bnd,bnd,bF (by omega) (by omega)]
 ·unfold cV
  rw[dF h1,Vc.cF]
 cases b with
 |inl i=>
  obtain⟨x,hx,hf⟩:=hb
  have:=(dl hx).1
  exact Tot.s (Tot.cd (λ_=>Tot.b (Tot.ge hx (Tot.s (by unfold ownR ownV;rw[hf])))) λh=>(h this).elim)
 |inr _=>exact Tot.s (Tot.cd (λh=>by simp at h) λ_=>Tot.s (by unfold ownR ownV;rw[hb]))
theorem own_rf {s:TJ0} {k:Bs} (hn:10000000000001<n) (hs:s.aT.length≤100):jL n s k=some (ownR s k):=by
 suffices h:Tot (jL n s k) λr=>r=ownR s k by
  obtain⟨r,h1,h2⟩:=h
  rw[h1,h2]
 unfold jL
 refine Tot.b (Tot.m (R:=λb=>match b with|.inl o=>ownV s k=some o|.inr _=>ownV s k=none) (Tot.lm s.aT (λs=>s.1) (λo=>decide (o.ci=k)=false) (λ_=>True) (by omega) rfl trivial (Q:=λb:Sum TW0 TW0=>match b with|.inl o=>ownV s k=some o|.inr _=>ownV s k=none) λt h1 _ hm=>?_) λb hb=>?_)
 ·unfold tg
  refine Tot.cd (λh2=>?_) λh2=>Tot.sb (List.find?_eq_none.2 λy hy=>by rw[cx h2 hm y hy];simp)
  obtain⟨o,ho,hk⟩: ∃o,am s.aT t.1=some o∧(decide (o.ci=k)=false→∀y∈s.aT.take (t.1+1).toNat,decide (y.ci=k)=false):=Tot.gm (Q:=λo:TW0=>decide (o.ci=k)=false→∀y∈s.aT.take (t.1+1).toNat,decide (y.ci=k)=false) ⟨h1,h2⟩ λx hx ht h=>ht hm h
  exact Tot.b (Tot.ge ho (Tot.cd (λh=>Tot.b (Tot.ge ho (Tot.sb (find_at ho (dT h) hm)))) λh=>Tot.i (by omega) (Tot.sn ⟨h2,rfl,hk (dF h),trivial⟩)))
 cases b with
 |inl o=>exact Tot.s (by unfold ownR;rw[hb])
 |inr _=>exact Tot.s (by unfold ownR;rw[hb])
def goO (s:TJ0) (c:TD0):Option TW0:=if c.aE=4∨c.aE=3 then ownV s c.ci else none
def goFrom (s:TJ0):Nat→List TD0→List (Int×TW0)|_,[]=>[]|i,c::cs=>match goO s c with|some o=>((i:Int),o)::goFrom s (i+1) cs|none=>goFrom s (i+1) cs
theorem wN {s:TJ0} {x:Int×TW0}: ∀ {l:List TD0} {i:Nat},x∈goFrom s i l↔ ∃k,∃h:k<l.length,x.1=(i:Int)+k∧goO s l[k]=some x.2
 |[],i=>by simp[goFrom]
 |c::cs,i=>by
  unfold goFrom
  have ih:=wN (s:=s) (x:=x) (l:=cs) (i:=i+1)
  have tail:x∈goFrom s (i+1) cs↔ ∃k,∃h:k+1<(c::cs).length,x.1=(i:Int)+ ((k+1:Nat):Int)∧goO s (c::cs)[k+1]=some x.2:=by
   rw[ih]
   constructor
   ·rintro⟨k,h,e1,e2⟩;exact⟨k,by simp;omega,by omega,e2⟩
   rintro⟨k,h,e1,e2⟩;exact⟨k,by simp at h;omega,by omega,e2⟩
  constructor
  ·intro h
   split at h
   ·rename_i o ho
    rcases List.mem_cons.1 h with h|h
    ·exact⟨0,by simp,by simp[h],by rw[h];exact ho⟩
    obtain⟨k,hk,e⟩:=tail.1 h;exact⟨k+1,hk,e⟩
   obtain⟨k,hk,e⟩:=tail.1 h;exact⟨k+1,hk,e⟩
  rintro⟨k,hk,e1,e2⟩
  cases k with
  |zero=>
   simp at e1 e2
   rw[e2]
   exact List.mem_cons.2 (.inl (by cases x;simp at e1 ⊢;exact e1))
  |succ k=>
   have:=tail.2 ⟨k,hk,e1,e2⟩
   split
   ·exact List.mem_cons_of_mem _ this
   exact this
theorem sd {s:TJ0}: ∀ {l:List TD0} {i:Nat},(goFrom s i l).length≤l.length
 |[],i=>by simp[goFrom]
 |c::cs,i=>by
  have:=sd (s:=s) (l:=cs) (i:=i+1)
  unfold goFrom
  split<;>simp<;>omega
theorem going_pg {w:TU0} (hn:10000000000001<n) (hs:Sml w): ∀ (m k:Nat),k≤w.aq.length→w.aq.length-k<m→goingL n w m k=some (goFrom w.bW k (w.aq.drop k)):=by
 intro m
 induction m with
 |zero=>intro k _ h;omega
 |succ m ihm=>
  intro k hk hm
  have hc:=hs.ch
  unfold goingL
  by_cases h:k<w.aq.length
  ·have ih:=ihm (k+1) (by omega) (by omega)
   rw[show(((k+1:Nat)):Int)=(k:Int)+1 by omega] at ih
   rw[dT (by omega),cT,bT h,bnd,List.drop_eq_getElem_cons h]
   unfold goFrom goO
   by_cases h4:w.aq[k].aE=4
   ·rw[dT h4,nT,Vc.cF,bnd,Vc.cF,if_pos (.inl h4),own_pg hn hs.ow]
    unfold ownR
    cases ownV w.bW w.aq[k].ci with
    |some o=>rw[bnd,bnd,cT,bF (by omega) (by omega),ih,bnd]
    |none=>rw[bnd,bnd,Vc.cF,bF (by omega) (by omega),ih]
   rw[dF h4,nF,cT,bnd]
   by_cases h3:w.aq[k].aE=3
   ·rw[dT h3,nT,Vc.cF,if_pos (.inr h3),own_pg hn hs.ow]
    unfold ownR
    cases ownV w.bW w.aq[k].ci with
    |some o=>rw[bnd,bnd,cT,bF (by omega) (by omega),ih,bnd]
    |none=>rw[bnd,bnd,Vc.cF,bF (by omega) (by omega),ih]
   rw[dF h3,nF,cT,if_neg (by omega),bF (by omega) (by omega),ih]
  rw[dF (by omega),Vc.cF,List.drop_eq_nil_of_le (by omega)];rfl
def goV (w:TU0):List (Int×TW0):=goFrom w.bW 0 w.aq
theorem goV_pg {w:TU0} (hn:10000000000001<n) (hs:Sml w) (ho:Okt w):goingV n w=some (goV w):=by
 have hc:=hs.ch
 unfold goingV
 rw[may_own hn w hs ho,bnd,nT,Vc.cF]
 exact going_pg hn hs n 0 (by omega) (by omega)
def goesV (w:TU0):List Int:=((goV w).filter λx=> !x.2.bG).map (·.1)
def leftV (w:TU0):List Int:=((goV w).filter λx=>x.2.bG).map (·.1)
theorem AA {α β:Type} {Y:List β→α→Option (Lp (List β) Empty)} {p:α→Bool} {f:α→β} {B:Nat}: ∀ (xs:List α) (acc:List β),acc.length+xs.length≤B→(∀a x,a.length<B→Y a x=some (.nx (bif p x then a++[f x] else a)))→iV Y xs acc=some (.nx (acc++(xs.filter p).map f))
 |[],acc,_,_=>by simp[iV]
 |x::xs,acc,hl,h=>by
  simp only[List.length_cons] at hl
  unfold iV
  rw[h acc x (by omega)]
  simp only[Option.bind_some]
  rw[AA xs _ (by cases p x<;>simp<;>omega) h]
  cases e:p x<;>simp[List.filter_cons,e]
theorem goes_pg {w:TU0} (hn:10000000000001<n) (hs:Sml w) (ho:Okt w):jQ n w=some (goesV w):=by
 have hc:=hs.ch
 have hl: (goV w).length≤w.aq.length:=sd
 unfold jQ
 rw[goV_pg hn hs ho,bnd,AA (p:=λx:Int×TW0=> !x.2.bG) (f:=(·.1)) (B:=3000000) _ _ (by simp;omega) λa x ha=>by
  unfold tH
  cases x.2.bG with
  |true=>rfl
  |false=>rw[nF,cT,cO (by omega)];rfl]
 rfl
theorem lefts_pg {w:TU0} (hs:Sml w):iV (mF n) (goV w) ([]:List Int)=some (.nx (leftV w)):=by
 have hc:=hs.ch
 have hl: (goV w).length≤w.aq.length:=sd
 rw[AA (p:=λx:Int×TW0=>x.2.bG) (f:=(·.1)) (B:=3000000) _ _ (by simp;omega) λa x ha=>by
  unfold mF
  cases x.2.bG with
  |false=>rfl
  |true=>rw[cT,cO (by omega)];rfl]
 rfl
theorem goes_mem {w:TU0} {x:Int}:x∈goesV w↔ ∃k,∃h:k<w.aq.length,x=k∧∃o,goO w.bW w.aq[k]=some o∧o.bG=false:=by
 unfold goesV goV
 simp only[List.mem_map,List.mem_filter,wN,Bool.not_eq_true',Prod.exists]
 constructor
 ·rintro⟨i,o,⟨⟨k,hk,e1,e2⟩,h⟩,rfl⟩;exact⟨k,hk,by simp at e1;exact e1,o,e2,h⟩
 rintro⟨k,hk,rfl,o,e2,h⟩;exact⟨k,o,⟨⟨k,hk,by simp,e2⟩,h⟩,rfl⟩
theorem left_mem {w:TU0} {x:Int}:x∈leftV w↔ ∃k,∃h:k<w.aq.length,x=k∧∃o,goO w.bW w.aq[k]=some o∧o.bG=true:=by
 unfold leftV goV
 simp only[List.mem_map,List.mem_filter,wN,Prod.exists]
 constructor
 ·rintro⟨i,o,⟨⟨k,hk,e1,e2⟩,h⟩,rfl⟩;exact⟨k,hk,by simp at e1;exact e1,o,e2,h⟩
 rintro⟨k,hk,rfl,o,e2,h⟩;exact⟨k,o,⟨⟨k,hk,by simp,e2⟩,h⟩,rfl⟩
theorem parts_len {w:TU0}: (goesV w).length+ (leftV w).length≤w.aq.length:=by
 have hl: (goV w).length≤w.aq.length:=sd
 have h: ∀l:List (Int×TW0),((l.filter λx=> !x.2.bG).map (·.1)).length+ ((l.filter λx=>x.2.bG).map (·.1)).length=l.length:=λl=>by
  induction l with
  |nil=>rfl
  |cons x l ih=>
   simp only[List.length_map] at ih ⊢
   cases e:x.2.bG<;>simp[List.filter_cons,e]<;>omega
 have:=h (goV w)
 unfold goesV leftV
 omega
open Go.Ck
def eA (n:Nat) (X5:List Int) (K1:Int× (List (Int×Bool))):Option (Lp (Int× (List (Int×Bool))) (List (Int×Bool))):=bif(decide (K1.1<(X5.length:Int))) then((am X5 K1.1).bind λX7=>an (inR .i64 (K1.1+1))<|some (.nx (K1.1+1,ic K1.2 X7 (true)))) else some (.br K1.2)
def eC (n:Nat) (X9:List Int×List Int) (K2:Int× (List (Int×Bool))):Option (Lp (Int× (List (Int×Bool))) (List (Int×Bool))):=bif(decide (K2.1<(X9.2.length:Int))) then((am X9.2 K2.1).bind λX11=>an (inR .i64 (K2.1+1))<|some (.nx (K2.1+1,ic K2.2 X11 (true)))) else some (.br K2.2)
def kH (n:Nat) (d1:TJ0) (X1:TU0×Bool) (G1: (List (Int×Bool))) (G2: (List (Int×Bool))) (K3:Int):Option (Lp Int (Sum Unit Unit)):=bif(decide (K3<(X1.1.aq.length:Int))) then((am X1.1.aq K3).bind λX13=>(jL n d1 X13.ci).bind λX15=>((bif X15.2 then(bif(decide (X13.aE=4)) then(some ((true))) else some ((decide (X13.aE=3)))) else some ((false)):Option Bool)).bind λG3=>bif G3 then(bif(!(((gc G1 K3).getD false)== !X15.1.bG)) then(some (.br (.inl ()))) else bif(!(((gc G2 K3).getD false)==X15.1.bG)) then(some (.br (.inl ()))) else an (inR .i64 (K3+1))<|some (.nx (K3+1))) else bif(!(((gc G1 K3).getD false)==false)) then(some (.br (.inl ()))) else bif(!(((gc G2 K3).getD false)==false)) then(some (.br (.inl ()))) else an (inR .i64 (K3+1))<|some (.nx (K3+1))) else some (.br (.inr ()))
def dx (n:Nat) (d0:Int) (d1:TJ0) (d2:TC0) (d3:List TK0) (d4:Int):Option Bool:=(oy n d0 d1 d2 d3 d4).bind λX1=>bif !X1.2 then((lU n).bind λX3=>some ((X3))) else(jQ n X1.1).bind λX5=>(au (eA n X5) n ((0:Int),([]:List (Int×Bool)))).bind λG1=>(iH n X1.1).bind λX9=>(au (eC n X9) n ((0:Int),([]:List (Int×Bool)))).bind λG2=>(au (kH n d1 X1 G1 G2) n (0:Int)).bind λQ6=>(match Q6 with|.inl G4=>some ((false))|.inr G5=>an (inR .i64 ((G1.length:Int)+ (G2.length:Int)))<|bif(decide (((G1.length:Int)+ (G2.length:Int))≤(X1.1.aq.length:Int))) then((lU n).bind λX17=>some ((X17))) else some ((false)))
set_option maxRecDepth 20000 in
theorem uD (n:Nat) (d0:Int) (d1:TJ0) (d2:TC0) (d3:List TK0) (d4:Int) (z:Zs):oK (eb.facts d1 z++bk.facts d2 (sh 5 z)++[sX 8 aj (z 9) d3]) [] 5 [.int .i8 d0,eb.ag d1 z,bk.ag d2 (sh 5 z),wX (z 9) d3,.int .i64 d4] (dx n d0 d1 d2 d3 d4) (λr y=>⟨.bool r,[],[]⟩):=
 fn 124 Tryz.func5 (ob (λX1 X2=>br [bx 10,bx 11,K 10 0,K 11 0,C (law27_work_C n d0 d1 d2 d3 d4) X2 [0,1,2,3,4,5,6,7,8,9] [] 12,al 22,Sn 22] (ob (λ_ X4=>rt [C (vW n) X4 [] [] 23])) (ob (λ_ X6=>lp [mmI .i64 23 Value.bool,O 22,C (um n X1.1) X6 [12,13,14,15,16,17,18,19,20,21] [] 24] {} (λK1 _ _=>{L:=[(42,.int .i64 K1.1)],ks:=[6,11,13,40,41],o:=[(23,jz (Value.int .i64) Value.bool K1.2)]}) (λG1 _ _=>{e:=.exit 0,ks:=[6,11,13],o:=[(23,jz (Value.int .i64) Value.bool G1)]}) (λK1=>br [] (ob (λX7 X8=>nd (λO1=>rt [Re 24 24 25 (tI .i64) X8,X 26,Rd 24 25 0,miI .i64 23 Value.bool K1.2 X7 (true),wr 48 O1]))) (rt [])) (kA λG1=>ob (λ_ X10=>lp [O 22,C (oq n X1.1) X10 [12,13,14,15,16,17,18,19,20,21] [] 27,mmI .i64 29 Value.bool] {} (λK2 _ _=>{L:=[(57,.int .i64 K2.1)],ks:=[6,11,13,18,55,56],o:=[(29,jz (Value.int .i64) Value.bool K2.2)]}) (λG2 _ _=>{e:=.exit 2,ks:=[6,11,13,18],o:=[(29,jz (Value.int .i64) Value.bool G2)]}) (λK2=>br [] (ob (λX11 X12=>nd (λO2=>rt [Re 28 28 30 (tI .i64) X12,X 31,Rd 28 30 0,miI .i64 29 Value.bool K2.2 X11 (true),wr 63 O2]))) (rt [])) (kA λG2=>lp [O 22] {} (λK3 _ _=>{L:=[(67,.int .i64 K3)],ks:=[6,11,13,18,65,66]}) (λx z b=>match x with|.inl G4=>{e:=.ret,L:=[(10,.bool false)]}|.inr G5=>{e:=.exit 4,ks:=[11,13,18]}) (λK3=>br [] (ob (λX13 X14=>ob (λ_ X16=>jn (.reg 21) [I 20 32 du X14,K 32 0,al 35,Sn 35,K 10 0,O 35,C (zb n d1 X13.ci) X16 [0,1,2,3,4] [] 36,al 38,Sn 38] (λG3 _ _=>{L:=[(25,.bool G3)],ks:=[6,11,13,18,21,23,65,66,67]}) (bs [] 80 (bs [O 35] 84 (rt []) (rt [O 35])) (rt [])) (kA λ_=>bsh [mlI .i64 23 Value.bool G1 K3 false] 94 (λB7=>bs [O 38] 100 (rt [cd true]) (br [mlI .i64 29 Value.bool G2 K3 false,bt 105 B7,O 38] (rt []) (nd (λO3=>rt [wr 111 O3])))) (λB7=>bs [] 100 (rt [cd true]) (br [mlI .i64 29 Value.bool G2 K3 false,bt 105 B7] (rt []) (nd (λO4=>rt [wr 111 O4])))))))) (rt [])) (kS (kA λ_=>rt []) (kA λ_=>nd (λO5=>bs [Ck.mL .i64 23 Value.bool G1,Ck.mL .i64 29 Value.bool G2,wr 116 O5,O 22] 121 (ob (λ_ X18=>rt [C (vW n) X18 [] [] 39])) (rt [])))))))))))
variable {n:Nat}
abbrev F9:=TQ0
theorem task_find {w:TU0} {i p:Int} (hn:10000000000001<n) (ht:w.av.length≤10000000):Tot (iK n w i p) λr=>match w.av.find? (isT i p) with|some t=>r=(t,true)|none=>r.2=false:=by
 unfold iK lu
 refine Tot.b (Tot.b (Tot.m (R:=λb=>match b with|.inl y=>∃t,w.av.find? (isT i p)=some t∧y=t|.inr _=>w.av.find? (isT i p)=none) (Tot.lm w.av (λs:Int×F9=>s.1) (λt=>isT i p t=false) (λ_=>True) (by omega) rfl trivial (Q:=λb:Sum F9 F9=>match b with|.inl y=>∃t,w.av.find? (isT i p)=some t∧y=t|.inr _=>w.av.find? (isT i p)=none) λs h1 _ hm=>?_) λb hb=>?_))
 ·unfold gn jU
  refine Tot.cd (λh2=>?_) λh2=>Tot.sb (List.find?_eq_none.2 λy hy=>by rw[cx h2 hm y hy];simp)
  obtain⟨t,he,hk⟩: ∃t,am w.av s.1=some t∧(isT i p t=false→∀y∈w.av.take (s.1+1).toNat,isT i p y=false):=Tot.gm (Q:=λt=>isT i p t=false→∀y∈w.av.take (s.1+1).toNat,isT i p y=false) ⟨h1,h2⟩ λx hx ht h=>ht hm h
  refine Tot.b (Tot.ge he (Tot.b (Tot.m (R:=λb=>b=isT i p t) (Tot.cd (λh=>Tot.s (by simp[isT,h])) λh=>Tot.s (by simp[isT,h])) λb hb=>Tot.c (λh=>Tot.b (Tot.ge he (Tot.sb ⟨t,find_at he (by rw[←hb,h]) hm,rfl⟩))) λh=>Tot.i (by omega) (Tot.sn ⟨h2,rfl,hk (by rw[←hb,h]),trivial⟩))))
 cases b with
 |inl y=>
  obtain⟨t,ht,rfl⟩:=hb
  exact Tot.s (Tot.s (by rw[ht]))
 |inr y=>exact Tot.s (Tot.s (by dsimp only at hb;rw[hb]))
def tS (w:TU0) (i:Int):Int:=match w.av.find? (isT i 2) with|none=>1|some t=>if t.cA=0 then 2 else if t.cA=1 then 3 else 4
def st0 (w:TU0):List Int:=(List.range w.aq.length).map λ (i:Nat)=>if (i:Int)∈goesV w then tS w i else 0
theorem Ad {w:TU0}: (st0 w).length=w.aq.length:=by simp[st0]
theorem st0_at {w:TU0} {i:Nat} (h:i<w.aq.length): (st0 w).getD i 0=if (i:Int)∈goesV w then tS w i else 0:=by simp[st0,List.getD,h]
def ownW (w:TU0):TU0:=⟨w.aE,w.cm,w.bW,w.ib,w.bc,w.bC,w.aq.map λc=>⟨c.ci,c.aE,c.bB,c.bj,c.bG,c.uz,c.bW,(ownR w.bW c.ci).1.bA⟩,w.av,w.aS,w.bY⟩
theorem enumF_map {α β:Type} (g:α→β): ∀ (l:List α) (i:Int),enumF i (l.map g)=(enumF i l).map λp=>(p.1,g p.2)
 |[],_=>rfl
 |x::l,i=>by simp only[List.map_cons,enumF,enumF_map g l]
theorem backI_map {α β:Type} (g:α→β) (l:List α):backI (l.map g)=(backI l).map λp=>(p.1,g p.2):=by
 unfold backI;rw[enumF_map,List.map_reverse]
theorem foldY_map {σ α α' β:Type} {Y:σ→α→Option (Lp σ β)} {Y':σ→α'→Option (Lp σ β)} {h:α→α'} (hh: ∀s x,Y' s (h x)=Y s x): ∀ (l:List α) (s:σ),iV Y' (l.map h) s=iV Y l s
 |[],_=>rfl
 |x::l,s=>by
  simp only[List.map_cons,iV,hh]
  congr 1
  funext r
  cases r with
  |nx s'=>exact foldY_map hh l s'
  |br b=>rfl
theorem AD {α β:Type} (g:α→β) (l:List α) (i:Int):am (l.map g) i=(am l i).map g:=by
 unfold am
 split
 ·rw[List.getElem?_map]
 rfl
theorem map_bind {α β γ:Type} (x:Option α) (g:α→β) (f:β→Option γ): (x.map g).bind f=x.bind λa=>f (g a):=by cases x<;>rfl
theorem leans_true {w:TU0} (hn:10000000000001<n) (hs:Sml w):de n w true=de n (ownW w) false:=by
 unfold de
 have e1: (ownW w).aq.length=w.aq.length:=by simp[ownW]
 have e2:iV (jq n) (backI (ownW w).aq) ([]:List (Bs×Int))=iV (jq n) (backI w.aq) []:=by
  unfold ownW
  rw[backI_map]
  exact foldY_map (λs x=>rfl) _ _
 have e3: ∀s2,dL n (ownW w) false s2=dL n w true s2:=λs2=>by
  funext s3
  unfold dL
  rw[e1]
  unfold ownW
  dsimp only
  rw[AD,map_bind]
  simp only[eta_S,own_pg hn hs.ow,cond_true,cond_false,Option.bind_some]
 rw[e1,e2]
 simp only[e3]
theorem ownW_sml {w:TU0} (hs:Sml w) (ho: ∀o∈w.bW.aT,o.bA.length≤60):Sml (ownW w):=⟨by simpa [ownW] using hs.ch,hs.tk,λc hc=>by
 obtain⟨d,_,rfl⟩:=List.mem_map.1 hc
 dsimp only
 unfold ownR
 cases e:ownV w.bW d.ci with
 |some o=>have:=ho o (List.mem_of_find?_eq_some e);dsimp only;omega
 |none=>decide,hs.ow,hs.pe,hs.re⟩
theorem leans_pg {w:TU0} (hn:10000000000001<n) (hs:Sml w) (ho: ∀o∈w.bW.aT,o.bA.length≤60): ∃R,de n w true=some R∧LeansOf (ownW w).aq R:=by
 have h:=ownW_sml hs ho
 rw[leans_true hn hs]
 exact leans_own hn (ownW w) h.ch h.ln
theorem st0_rng {w:TU0} (i:Nat) (h:i<(st0 w).length):0≤(st0 w).getD i 0∧(st0 w).getD i 0≤4:=by
 rw[Ad] at h
 rw[st0_at h]
 unfold tS
 split
 ·split
  ·simp
  split
  ·simp
  split<;>simp
 simp
theorem goes_rng {w:TU0} {x:Int} (h:x∈goesV w):0≤x∧x<w.aq.length:=by
 obtain⟨k,hk,rfl,_⟩:=goes_mem.1 h
 omega
theorem mget3 {x:Int} (h:0≤x∧x≤2): ((gc (ic (ic (ic ([]:List (Int×Int)) (0:Int) (2:Int)) (1:Int) (3:Int)) (2:Int) (4:Int)) x).getD (0:Int))=if x=0 then 2 else if x=1 then 3 else 4:=by
 have:x=0∨x=1∨x=2:=by omega
 rcases this with rfl|rfl|rfl<;>decide
theorem okt_state {w:TU0} (ho:Okt w) {t:TQ0} (ht:t∈w.av):0≤t.cA∧t.cA≤2:=by
 obtain⟨k,hk,rfl⟩:=List.getElem_of_mem ht
 have:=ho.tk k hk
 omega
theorem states_pg {w:TU0} (hn:10000000000001<n) (hs:Sml w) (ho:Okt w) (hl: ∀o∈w.bW.aT,o.bA.length≤60): ∃R,LeansOf (ownW w).aq R∧R.length=w.aq.length∧de n w true=some R∧mayB R (st0 w)=true∧ec n w=some (settledL (turnedL R) (st0 w)):=by
 obtain⟨R,hR,hL⟩:=leans_pg hn hs hl
 have hc:=hs.ch
 have hRl:R.length=w.aq.length:=by rw[hL.len];simp[ownW]
 have hm:mayB R (st0 w)=true:=mayB_of (by rw[Ad,hRl]) (λi hi=>by have:=st0_rng i hi;omega) (leans_in hL)
 have hG: (goesV w).length≤w.aq.length:=by have:=parts_len (w:=w);omega
 refine⟨R,hL,hRl,hR,hm,?_⟩
 suffices h:Tot (ec n w) λr=>r=settledL (turnedL R) (st0 w) by
  obtain⟨r,h1,h2⟩:=h
  rw[h1,h2]
 unfold ec
 refine Tot.b (Tot.ge (may_own hn w hs ho) (Tot.cn (Tot.ct ?_)))
 refine Tot.n (by omega) (Tot.b (Tot.ge (goes_pg hn hs ho) ?_))
 refine Tot.b (Tot.m (R:=λr=>r=st0 w) (Tot.li (λs=>s.2) (λs=>s.2≤(goesV w).length∧s.1.length=w.aq.length∧∀i:Nat,i<w.aq.length→s.1.getD i 0=if (i:Int)∈ (goesV w).take s.2.toNat then tS w i else 0) (goesV w).length (by omega) ⟨by simp,by simp,by simp,λi hi=>by simp[List.getD,List.getElem?_replicate,hi]⟩ λs h1 ⟨h2,h3,h4⟩=>?_) λy hy=>?_)
 ·unfold pQ
  refine Tot.cd (λh5=>Tot.b (Tot.gy ⟨h1,h5⟩ λx hx hxm=>?_)) λh5=>Tot.sb ?_
  ·have hr:=goes_rng hxm
   have e: (s.2+1).toNat=s.2.toNat+1:=by omega
   have key: ∀o:List Int,o.length=w.aq.length→(∀i:Nat,i<w.aq.length→o.getD i 0=if (i:Int)=x then tS w x else s.1.getD i 0)→∀i:Nat,i<w.aq.length→o.getD i 0=if (i:Int)∈ (goesV w).take (s.2+1).toNat then tS w i else 0:=λo _ h i hi=>by
    rw[h i hi,e,tk1 hx]
    by_cases e1: (i:Int)=x
    ·rw[if_pos e1,if_pos (List.mem_append.2 (.inr (by simp[e1]))),e1]
    rw[if_neg e1,h4 i hi]
    by_cases e2: (i:Int)∈ (goesV w).take s.2.toNat
    ·rw[if_pos e2,if_pos (List.mem_append_left _ e2)]
    rw[if_neg e2,if_neg λh=>(List.mem_append.1 h).elim e2 λh=>e1 (List.mem_singleton.1 h)]
   refine Tot.b (Tot.gy (by omega) λ_ _ _=>Tot.b ((task_find hn hs.tk).m λr hr'=>?_))
   cases e3:w.av.find? (isT x 2) with
   |some t=>
    rw[e3] at hr'
    dsimp only at hr'
    subst hr'
    have hst:=okt_state ho (List.mem_of_find?_eq_some e3)
    refine Tot.ct (Tot.b (Tot.gy (by simp;omega) λ_ _ _=>Tot.i (by omega) (Tot.sn ⟨h5,by dsimp only;omega,by dsimp only;omega,by simp[h3],key _ (by simp[h3]) λi hi=>?_⟩)))
    rw[vw (by simp;omega),vw (by omega),mget3 hst]
    by_cases e1: (i:Int)=x
    ·rw[if_pos (by omega),if_pos e1];unfold tS;rw[e3]
    rw[if_neg (by omega),if_neg (by omega),if_neg e1]
   |none=>
    rw[e3] at hr'
    dsimp only at hr'
    rw[hr']
    refine Tot.cf (Tot.i (by omega) (Tot.sn ⟨h5,by dsimp only;omega,by dsimp only;omega,by simp[h3],key _ (by simp[h3]) λi hi=>?_⟩))
    rw[vw (by omega)]
    by_cases e1: (i:Int)=x
    ·rw[if_pos (by omega),if_pos e1];unfold tS;rw[e3]
    rw[if_neg (by omega),if_neg e1]
  refine list_eq (by rw[h3,Ad]) λi hi=>?_
  rw[h3] at hi
  rw[h4 i hi,st0_at hi,List.take_of_length_le (by omega)]
 subst hy
 refine Tot.b (Tot.ge hR (Tot.b (Tot.ge (settle_eq R (st0 w) true (leans_sm hL (by simpa [ownW] using hc)) (by omega)) (Tot.s ?_))))
 rw[hm];rfl
theorem left1 {st:List Int} (hn:10000000000001<n) (hl:st.length≤3000000):Tot (au (mE n st) n (([]:List Int),(0:Int))) λr=>r.length≤st.length∧∀x:Int,x∈r↔ ∃i:Nat,x=i∧i<st.length∧blocksB (st.getD i 0)=true:=by
 refine Tot.li (λs=>s.2) (λs=>s.2≤st.length∧s.1.length≤s.2∧∀x:Int,x∈s.1↔ ∃i:Nat,x=i∧i<s.2.toNat∧blocksB (st.getD i 0)=true) st.length (by omega) ⟨by simp,by simp,by simp,λx=>by simp⟩ λs h1 ⟨h2,h3,h4⟩=>?_
 unfold mE
 have e: (s.2+1).toNat=s.2.toNat+1:=by omega
 refine Tot.cd (λh5=>?_) λh5=>Tot.sb ⟨by omega,λx=>by rw[h4 x];constructor<;>rintro⟨i,a,b,c⟩<;>exact⟨i,a,by omega,c⟩⟩
 have hg:am st s.2=some (st.getD s.2.toNat 0):=by
  obtain⟨k,hk⟩:=Int.eq_ofNat_of_zero_le h1
  rw[hk]
  exact gY 0 (by omega)
 refine Tot.b (Tot.ge hg (Tot.b (Tot.m (R:=λb=>b=blocksB (st.getD s.2.toNat 0)) (Tot.cd (λh=>Tot.s (by unfold blocksB;rw[dT h,Bool.true_or])) λh=>Tot.s (by unfold blocksB;rw[dF h,Bool.false_or])) λb hb=>?_)))
 subst hb
 have step: ∀x:Int,(∃i:Nat,x=i∧i<s.2.toNat+1∧blocksB (st.getD i 0)=true)↔ (∃i:Nat,x=i∧i<s.2.toNat∧blocksB (st.getD i 0)=true)∨x=s.2∧blocksB (st.getD s.2.toNat 0)=true:=λx=>by
  constructor
  ·rintro⟨i,a,b,c⟩
   by_cases ei:i=s.2.toNat
   ·exact .inr ⟨by omega,ei▸c⟩
   exact .inl ⟨i,a,by omega,c⟩
  rintro(⟨i,a,b,c⟩|⟨a,c⟩)
  ·exact⟨i,a,by omega,c⟩
  exact⟨s.2.toNat,by omega,by omega,c⟩
 refine Tot.c (λh=>Tot.n (by omega) (Tot.i (by omega) (Tot.sn ⟨h5,by dsimp only;omega,by dsimp only;omega,by simp;omega,λx=>?_⟩))) λh=>Tot.i (by omega) (Tot.sn ⟨h5,by dsimp only;omega,by dsimp only;omega,by dsimp only;omega,λx=>?_⟩)
 ·dsimp only;rw[e,step x,List.mem_append,h4 x,List.mem_singleton,h];simp
 dsimp only;rw[e,step x,h4 x,h];simp
theorem left_pg {w:TU0} (hn:10000000000001<n) (hs:Sml w) (ho:Okt w) {st:List Int} (hst:ec n w=some st) (hl:st.length=w.aq.length):Tot (iH n w) λr=>(r.1.length≤st.length∧∀x:Int,x∈r.1↔ ∃i:Nat,x=i∧i<st.length∧blocksB (st.getD i 0)=true)∧r.2=leftV w:=by
 have hc:=hs.ch
 unfold iH
 refine Tot.b (Tot.ge hst (Tot.b ((left1 hn (by omega)).m λl hl'=>Tot.b (Tot.ge (goV_pg hn hs ho) (Tot.b (Tot.ge (lefts_pg hs) (Tot.s ⟨hl',rfl⟩)))))))
variable {n:Nat}
theorem mput_len {κ V:Type} [DecidableEq κ]: ∀ (m:List (κ×V)) (k:κ) (v:V),(ic m k v).length≤m.length+1
 |[],_,_=>by simp[ic]
 |p::r,k,v=>by
  have:=mput_len r k v
  unfold ic
  split<;>simp<;>omega
theorem sets_loop {G:List Int} {step:Int×List (Int×Bool)→Option (Lp (Int×List (Int×Bool)) (List (Int×Bool)))} (hn:G.length<n) (hs: ∀s:Int×List (Int×Bool),0≤s.1→∀x,am G s.1=some x→step s=some (.nx (s.1+1,ic s.2 x true))) (he: ∀s:Int×List (Int×Bool),¬s.1<G.length→step s=some (.br s.2)):Tot (au step n ((0:Int),([]:List (Int×Bool)))) λm=>m.length≤G.length∧∀i,(gc m i).getD false=decide (i∈G):=by
 refine Tot.li (λs=>s.1) (λs=>s.1≤G.length∧s.2.length≤s.1∧∀i,(gc s.2 i).getD false=decide (i∈G.take s.1.toNat)) G.length (by omega) ⟨by simp,by simp,by simp,λi=>by simp[gc]⟩ λs h1 ⟨h2,h3,h4⟩=>?_
 by_cases h:s.1<G.length
 ·obtain⟨x,hx,_⟩:=Tot.gy (Q:=λ_=>True) (xs:=G) ⟨h1,h⟩ λ_ _ _=>trivial
  have e: (s.1+1).toNat=s.1.toNat+1:=by omega
  have:=mput_len s.2 x true
  rw[hs s h1 x hx]
  refine Tot.sn ⟨h,by dsimp only;omega,by dsimp only;omega,by dsimp only;omega,λi=>?_⟩
  dsimp only
  rw[yi,e,tk1 hx]
  by_cases e1:x=i
  ·rw[if_pos e1];simp[e1]
  rw[if_neg e1,h4 i]
  simp only[List.mem_append,List.mem_singleton]
  by_cases e2:i∈G.take s.1.toNat
  ·rw[dT e2,dT (.inl e2)]
  rw[dF e2,dF λh=>h.elim e2 λh=>e1 h.symm]
 rw[he s h]
 refine Tot.sb ⟨by omega,λi=>?_⟩
 rw[h4 i,List.take_of_length_le (by omega)]
theorem goO_eq {s:TJ0} {c:TD0}: ((if c.aE=4 then true else decide (c.aE=3))=true∧(ownR s c.ci).2=true∧goO s c=some (ownR s c.ci).1)∨((bif(ownR s c.ci).2 then(if c.aE=4 then true else decide (c.aE=3)) else false)=false∧goO s c=none):=by
 unfold ownR goO
 cases ownV s c.ci with
 |none=>exact .inr ⟨rfl,by simp⟩
 |some o=>
  by_cases h4:c.aE=4
  ·exact .inl ⟨by simp[h4],rfl,by simp[h4]⟩
  by_cases h3:c.aE=3
  ·exact .inl ⟨by simp[h3],rfl,by simp[h3]⟩
  exact .inr ⟨by simp[h4,h3],by simp[h4,h3]⟩
theorem parts_law {k wd:Int} {s:TJ0} {t:TC0} {gs:List TK0} (hN:10000000000000000000<n) (hs:dsz (ez s)≤2000000) (ht:dsz (aW t)≤2000000) (hg:zl gs≤2000000) (hwk:lU n=some true):dx n k s t gs wd=some true:=by
 have hn:10000000000001<n:=by omega
 suffices h:Tot (dx n k s t gs wd) λr=>r=true by
  obtain⟨r,h1,h2⟩:=h
  rw[h1,h2]
 unfold dx
 refine Tot.b ((work27 hN hs ht hg).m λx hx=>Tot.cn (Tot.c (λh=>?_) λ_=>Tot.b (Tot.ge hwk (Tot.s rfl))))
 have hf:=hx h
 have hsm:=hf.sm.sml (Nat.le_refl _)
 have hc:=hsm.ch
 have hP:=parts_len (w:=x.1)
 obtain⟨R,hL,hRl,hR,hm,hst⟩:=states_pg hn hsm hf.ok λo ho=>(hf.sm.od.2 o ho).2.1
 have how:s.aT.length≤100:=by have:=hsm.ow;rw[hf.od] at this;exact this
 refine Tot.b (Tot.ge (goes_pg hn hsm hf.ok) (Tot.b ((sets_loop (n:=n) (G:=goesV x.1) (step:=eA n (goesV x.1)) (by omega) (λu h0 y hy=>?_) λu hu=>?_).m λm1 ⟨l1,g1⟩=>?_)))
 ·unfold eA
  have:=(dl hy).2.1
  rw[dT this,cT,hy,bnd,bF (by omega) (by omega)]
 ·unfold eA;rw[dF hu,Vc.cF]
 refine Tot.b ((left_pg hn hsm hf.ok hst (by rw[zc,Ad])).m λl ⟨_,hl2⟩=>?_)
 refine Tot.b ((sets_loop (n:=n) (G:=l.2) (step:=eC n l) (by rw[hl2];omega) (λu h0 y hy=>?_) λu hu=>?_).m λm2 ⟨l2,g2⟩=>?_)
 ·unfold eC
  have h':=(dl hy).2.1
  have h3:=h'
  rw[hl2] at h3
  rw[dT h',cT,hy,bnd,bF (by omega) (by omega)]
 ·unfold eC;rw[dF hu,Vc.cF]
 refine Tot.b (Tot.m (R:=λb=>match b with|.inl _=>False|.inr _=>True) (Tot.li (λu=>u) (λ_=>True) x.1.aq.length (by omega) (by simp) λu h1 _=>?_) λb hb=>?_)
 ·unfold kH
  refine Tot.cd (λh2=>?_) λ_=>Tot.sb trivial
  obtain⟨q,rfl⟩:=Int.eq_ofNat_of_zero_le h1
  have hq:q<x.1.aq.length:=by omega
  rw[hl2] at g2
  have hmem: ∀b:Bool,((∃j,∃h:j<x.1.aq.length,(q:Int)=j∧∃o,goO x.1.bW x.1.aq[j]=some o∧o.bG=b)↔ (goO s x.1.aq[q]).any (λo=>o.bG==b)=true):=λb=>by
   rw[hf.od]
   constructor
   ·rintro⟨j,hj,e,o,h,hr⟩
    have:q=j:=by omega
    subst this
    rw[h];simp[hr]
   intro h
   cases e:goO s x.1.aq[q] with
   |none=>rw[e] at h;cases h
   |some o=>rw[e] at h;exact⟨q,hq,rfl,o,e,by simpa using h⟩
  have m1': ((gc m1 (q:Int)).getD false)=(goO s x.1.aq[q]).any (λo=>o.bG==false):=by
   rw[g1,Bool.eq_iff_iff,decide_eq_true_iff,goes_mem];exact hmem false
  have m2': ((gc m2 (q:Int)).getD false)=(goO s x.1.aq[q]).any (λo=>o.bG==true):=by
   rw[g2,Bool.eq_iff_iff,decide_eq_true_iff,left_mem];exact hmem true
  refine Tot.b (Tot.ge (bT hq) (Tot.b (Tot.ge (own_rf hn how) ?_)))
  rw[m1',m2']
  have hz:Tot (bif(ownR s x.1.aq[q].ci).2 then(bif(decide (x.1.aq[q].aE=4)) then(some true) else some (decide (x.1.aq[q].aE=3))) else some false) λb=>b=bif(ownR s x.1.aq[q].ci).2 then(if x.1.aq[q].aE=4 then true else decide (x.1.aq[q].aE=3)) else false:=
   Tot.c (λh=>Tot.cd (λh4=>Tot.s (by rw[h,if_pos h4];rfl)) λh4=>Tot.s (by rw[h,if_neg h4];rfl)) λh=>Tot.s (by rw[h];rfl)
  refine Tot.b (hz.m λy hy=>?_)
  rw[hy]
  rcases goO_eq (s:=s) (c:=x.1.aq[q]) with⟨e1,e2,e3⟩|⟨e1,e3⟩
  ·rw[e1,e2,e3]
   refine Tot.ct ?_
   simp only[Option.any_some]
   cases er: (ownR s x.1.aq[q].ci).1.bG with
   |true=>exact Tot.cf (Tot.cf (Tot.i (by omega) (Tot.sn ⟨h2,by omega,trivial⟩)))
   |false=>exact Tot.cf (Tot.cf (Tot.i (by omega) (Tot.sn ⟨h2,by omega,trivial⟩)))
  rw[e1,e3]
  exact Tot.cf (Tot.cf (Tot.cf (Tot.i (by omega) (Tot.sn ⟨h2,by omega,trivial⟩))))
 cases b with
 |inl _=>exact hb.elim
 |inr _=>
  rw[hl2] at l2
  exact Tot.i (by omega) (Tot.cd (λ_=>Tot.b (Tot.ge hwk (Tot.s rfl))) λh=>(h (by omega)).elim)
end Go.Proofs.YtkmbfmdhoeibhaaGreat
end
section
namespace Go.Proofs.YtkmbfmdhoeibhaaGreat
open Go Go.Vc Go.RowKit Go.Ck
def zRow (z1 z2:Zs) (zs:Zs):Zs:=λi=>if i<5 then z1 i else if i<9 then z2 (i-5) else zs (i-9)
theorem zRow_1 {z1 z2 zs:Zs} (d:TJ0):eb.cells d (zRow z1 z2 zs)=eb.cells d z1∧eb.facts d (zRow z1 z2 zs)=eb.facts d z1:=
 eb.loc λi hi=>by
  have hi:i<5:=hi
  simp[zRow,hi]
theorem zRow_2 {z1 z2 zs:Zs} (d:TC0):bk.cells d (sh 5 (zRow z1 z2 zs))=bk.cells d z2∧bk.facts d (sh 5 (zRow z1 z2 zs))=bk.facts d z2:=
 bk.loc λi hi=>by
  have hi:i<4:=hi
  show zRow z1 z2 zs (i+5)=z2 i
  unfold zRow
  rw[if_neg (by omega),if_pos (by omega),Nat.add_sub_cancel]
theorem ub (n:Nat) (M:Mem) (d0:Int) (c1:Lv) (d1:TJ0) (h1:Rep M (ez d1) c1) (c2:Lv) (d2:TC0) (h2:Rep M (aW d2) c2) (A3:Oa) (k3:Nat) (d3:List TK0) (h3:Sli M 8 aj A3 k3 d3) (d4:Int) (r:Bool) (hF:dx n d0 d1 d2 d3 d4=some r):Ok Tryz.prog M 5 [iB d0,.agg c1.toArray,.agg c2.toArray,sL A3 d3 k3,iL d4] (λ_ v=>v=bO r):=by
 obtain⟨z1,rfl,g1⟩:=eb.opn h1
 obtain⟨z2,rfl,g2⟩:=bk.opn h2
 have h:=uD n d0 d1 d2 d3 d4 (zRow z1 z2 λ_=>{A:=A3,c:=k3})
 unfold Ty.ag at h
 rw[(zRow_1 d1).1,(zRow_1 d1).2,(zRow_2 d2).1,(zRow_2 d2).2] at h
 exact OkC.back h (Fh.app (Fh.app g1 g2) (Fh.one h3)) hF
end Go.Proofs.YtkmbfmdhoeibhaaGreat
end
section
namespace Go.Proofs.YtkmbfmdhoeibhaaGreat
open Go Go.Vc Go.RowKit
theorem wakes27:lU 100000000000000000000=some true:=by decide+kernel
theorem zl_of {l:List TK0} (h:dsz (eL 8 aj l)≤1048576):zl l≤2000000:=by
 simp only[eL,dsz,zl,Sz.f] at*
 omega
theorem parts27 (e0:Int) (e1:TJ0) (e2:TC0) (e3:List TK0) (e4:Int) (h1:dsz (ez e1)≤1048576) (h2:dsz (aW e2)≤1048576) (h3:dsz (eL 8 aj e3)≤1048576):dx 100000000000000000000 e0 e1 e2 e3 e4=some true:=
 parts_law (by omega) (by omega) (by omega) (zl_of h3) wakes27
theorem opa_TL0 {H:Type} {enc:TypeId×Value→H} {w:World} {B:DataW H→Nat} (hB:BulkOk B): ∀m,OpnAt enc Tryz.prog w 184 aw B m:=by
 intro m
 induction m using Nat.strongRecOn with
 |ind m ih=>
 intro cs x h
 obtain⟨xs,n,rfl,rfl,hlen,hxl,hf⟩:=DataW.trod_struct Tryz.underlying184 h
 have hct:Tryz.prog.cellsOf 184=6:=by kernel_rfl
 rw[hct] at hlen
 obtain⟨x0,x1,x2,x3,x4,x5,rfl⟩: ∃x0 x1 x2 x3 x4 x5,xs=[x0,x1,x2,x3,x4,x5]:=by
  match xs,hxl with
  |[x0,x1,x2,x3,x4,x5],_=>exact⟨x0,x1,x2,x3,x4,x5,rfl⟩
 have f0:DataW.trod enc Tryz.prog w 0 (λ_=>true) true n 22 ((cs.drop 0).take (Tryz.prog.cellsOf 22))=some x0:=hf 0 _ rfl
 rw[show Tryz.prog.cellsOf 22=1 by kernel_rfl] at f0
 obtain⟨a0,r0,v0,b0⟩:=(λ_=>sk hB Tryz.underlying22) n _ _ f0
 have f1:DataW.trod enc Tryz.prog w 0 (λ_=>true) true n 4 ((cs.drop 1).take (Tryz.prog.cellsOf 4))=some x1:=hf 1 _ rfl
 rw[show Tryz.prog.cellsOf 4=1 by kernel_rfl] at f1
 obtain⟨a1,r1,v1,b1⟩:=(λ_=>ry hB Tryz.underlying4) n _ _ f1
 have f2:DataW.trod enc Tryz.prog w 0 (λ_=>true) true n 3 ((cs.drop 2).take (Tryz.prog.cellsOf 3))=some x2:=hf 2 _ rfl
 rw[show Tryz.prog.cellsOf 3=1 by kernel_rfl] at f2
 obtain⟨a2,r2,v2,b2⟩:=(λ_=>sk hB Tryz.underlying3) n _ _ f2
 have f3:DataW.trod enc Tryz.prog w 0 (λ_=>true) true n 9 ((cs.drop 3).take (Tryz.prog.cellsOf 9))=some x3:=hf 3 _ rfl
 rw[show Tryz.prog.cellsOf 9=1 by kernel_rfl] at f3
 obtain⟨a3,r3,v3,b3⟩:=(λ_=>dJ hB Tryz.underlying9) n _ _ f3
 have f4:DataW.trod enc Tryz.prog w 0 (λ_=>true) true n 182 ((cs.drop 4).take (Tryz.prog.cellsOf 182))=some x4:=hf 4 _ rfl
 rw[show Tryz.prog.cellsOf 182=1 by kernel_rfl] at f4
 obtain⟨a4,r4,v4,b4⟩:=(cb (m:=n) (e:=184) (sz:=6) hB Tryz.underlying182 kr (λk hk=>ih k (by omega))) _ _ f4
 have f5:DataW.trod enc Tryz.prog w 0 (λ_=>true) true n 58 ((cs.drop 5).take (Tryz.prog.cellsOf 58))=some x5:=hf 5 _ rfl
 rw[show Tryz.prog.cellsOf 58=1 by kernel_rfl] at f5
 obtain⟨a5,r5,v5,b5⟩:=(cb (m:=n) (e:=9) (sz:=1) hB Tryz.underlying58 kr (λk _=>(λ_=>dJ hB Tryz.underlying9) k)) _ _ f5
 refine⟨⟨a0,a1,a2,a3,a4,a5⟩,?_,?_,?_⟩
 ·rw[bJ]
  have hcs:ar (Mem.of w) _ (cs.drop 0):=(ar.cut (k:=1) r0 (by rw[List.drop_drop];exact(ar.cut (k:=1) r1 (by rw[List.drop_drop];exact(ar.cut (k:=1) r2 (by rw[List.drop_drop];exact(ar.cut (k:=1) r3 (by rw[List.drop_drop];exact(ar.cut (k:=1) r4 (by rw[List.drop_drop];exact(ar.cut (k:=1) r5 (by rw[List.drop_drop];exact(show ar (Mem.of w) [] (cs.drop 6) from List.drop_eq_nil_of_le (by omega))))))))))))))
  exact hcs
 ·rw[bJ];exact⟨v0,⟨v1,⟨v2,⟨v3,⟨v4,⟨v5,trivial⟩⟩⟩⟩⟩⟩
 rw[bJ]
 have:=hB.agg ([x0,x1,x2,x3,x4,x5].map (·.1))
 simp only[List.map_cons,List.map_nil,List.sum_cons,List.sum_nil] at this ⊢
 simp only[dsz,dszs] at*
 omega
theorem zZ {H:Type} {enc:TypeId×Value→H} {w:World} {B:DataW H→Nat} (hB:BulkOk B): ∀m,OpnAt enc Tryz.prog w 176 aL B m:=by
 intro m
 induction m using Nat.strongRecOn with
 |ind m ih=>
 intro cs x h
 obtain⟨xs,n,rfl,rfl,hlen,hxl,hf⟩:=DataW.trod_struct Tryz.underlying176 h
 have hct:Tryz.prog.cellsOf 176=6:=by kernel_rfl
 rw[hct] at hlen
 obtain⟨x0,x1,x2,x3,x4,x5,rfl⟩: ∃x0 x1 x2 x3 x4 x5,xs=[x0,x1,x2,x3,x4,x5]:=by
  match xs,hxl with
  |[x0,x1,x2,x3,x4,x5],_=>exact⟨x0,x1,x2,x3,x4,x5,rfl⟩
 have f0:DataW.trod enc Tryz.prog w 0 (λ_=>true) true n 22 ((cs.drop 0).take (Tryz.prog.cellsOf 22))=some x0:=hf 0 _ rfl
 rw[show Tryz.prog.cellsOf 22=1 by kernel_rfl] at f0
 obtain⟨a0,r0,v0,b0⟩:=(λ_=>sk hB Tryz.underlying22) n _ _ f0
 have f1:DataW.trod enc Tryz.prog w 0 (λ_=>true) true n 9 ((cs.drop 1).take (Tryz.prog.cellsOf 9))=some x1:=hf 1 _ rfl
 rw[show Tryz.prog.cellsOf 9=1 by kernel_rfl] at f1
 obtain⟨a1,r1,v1,b1⟩:=(λ_=>dJ hB Tryz.underlying9) n _ _ f1
 have f2:DataW.trod enc Tryz.prog w 0 (λ_=>true) true n 3 ((cs.drop 2).take (Tryz.prog.cellsOf 3))=some x2:=hf 2 _ rfl
 rw[show Tryz.prog.cellsOf 3=1 by kernel_rfl] at f2
 obtain⟨a2,r2,v2,b2⟩:=(λ_=>sk hB Tryz.underlying3) n _ _ f2
 have f3:DataW.trod enc Tryz.prog w 0 (λ_=>true) true n 9 ((cs.drop 3).take (Tryz.prog.cellsOf 9))=some x3:=hf 3 _ rfl
 rw[show Tryz.prog.cellsOf 9=1 by kernel_rfl] at f3
 obtain⟨a3,r3,v3,b3⟩:=(λ_=>dJ hB Tryz.underlying9) n _ _ f3
 have f4:DataW.trod enc Tryz.prog w 0 (λ_=>true) true n 9 ((cs.drop 4).take (Tryz.prog.cellsOf 9))=some x4:=hf 4 _ rfl
 rw[show Tryz.prog.cellsOf 9=1 by kernel_rfl] at f4
 obtain⟨a4,r4,v4,b4⟩:=(λ_=>dJ hB Tryz.underlying9) n _ _ f4
 have f5:DataW.trod enc Tryz.prog w 0 (λ_=>true) true n 174 ((cs.drop 5).take (Tryz.prog.cellsOf 174))=some x5:=hf 5 _ rfl
 rw[show Tryz.prog.cellsOf 174=1 by kernel_rfl] at f5
 obtain⟨a5,r5,v5,b5⟩:=(cb (m:=n) (e:=176) (sz:=6) hB Tryz.underlying174 kr (λk hk=>ih k (by omega))) _ _ f5
 refine⟨⟨a0,a1,a2,a3,a4,a5⟩,?_,?_,?_⟩
 ·rw[bH]
  have hcs:ar (Mem.of w) _ (cs.drop 0):=(ar.cut (k:=1) r0 (by rw[List.drop_drop];exact(ar.cut (k:=1) r1 (by rw[List.drop_drop];exact(ar.cut (k:=1) r2 (by rw[List.drop_drop];exact(ar.cut (k:=1) r3 (by rw[List.drop_drop];exact(ar.cut (k:=1) r4 (by rw[List.drop_drop];exact(ar.cut (k:=1) r5 (by rw[List.drop_drop];exact(show ar (Mem.of w) [] (cs.drop 6) from List.drop_eq_nil_of_le (by omega))))))))))))))
  exact hcs
 ·rw[bH];exact⟨v0,⟨v1,⟨v2,⟨v3,⟨v4,⟨v5,trivial⟩⟩⟩⟩⟩⟩
 rw[bH]
 have:=hB.agg ([x0,x1,x2,x3,x4,x5].map (·.1))
 simp only[List.map_cons,List.map_nil,List.sum_cons,List.sum_nil] at this ⊢
 simp only[dsz,dszs] at*
 omega
theorem opa_TG0 {H:Type} {enc:TypeId×Value→H} {w:World} {B:DataW H→Nat} (hB:BulkOk B): ∀m,OpnAt enc Tryz.prog w 245 gk B m:=by
 intro m
 induction m using Nat.strongRecOn with
 |ind m ih=>
 intro cs x h
 obtain⟨xs,n,rfl,rfl,hlen,hxl,hf⟩:=DataW.trod_struct Tryz.underlying245 h
 have hct:Tryz.prog.cellsOf 245=10:=by kernel_rfl
 rw[hct] at hlen
 obtain⟨x0,x1,x2,x3,x4,rfl⟩: ∃x0 x1 x2 x3 x4,xs=[x0,x1,x2,x3,x4]:=by
  match xs,hxl with
  |[x0,x1,x2,x3,x4],_=>exact⟨x0,x1,x2,x3,x4,rfl⟩
 have f0:DataW.trod enc Tryz.prog w 0 (λ_=>true) true n 9 ((cs.drop 0).take (Tryz.prog.cellsOf 9))=some x0:=hf 0 _ rfl
 rw[show Tryz.prog.cellsOf 9=1 by kernel_rfl] at f0
 obtain⟨a0,r0,v0,b0⟩:=(λ_=>dJ hB Tryz.underlying9) n _ _ f0
 have f1:DataW.trod enc Tryz.prog w 0 (λ_=>true) true n 4 ((cs.drop 1).take (Tryz.prog.cellsOf 4))=some x1:=hf 1 _ rfl
 rw[show Tryz.prog.cellsOf 4=1 by kernel_rfl] at f1
 obtain⟨a1,r1,v1,b1⟩:=(λ_=>ry hB Tryz.underlying4) n _ _ f1
 have f2:DataW.trod enc Tryz.prog w 0 (λ_=>true) true n 4 ((cs.drop 2).take (Tryz.prog.cellsOf 4))=some x2:=hf 2 _ rfl
 rw[show Tryz.prog.cellsOf 4=1 by kernel_rfl] at f2
 obtain⟨a2,r2,v2,b2⟩:=(λ_=>ry hB Tryz.underlying4) n _ _ f2
 have f3:DataW.trod enc Tryz.prog w 0 (λ_=>true) true n 184 ((cs.drop 3).take (Tryz.prog.cellsOf 184))=some x3:=hf 3 _ rfl
 rw[show Tryz.prog.cellsOf 184=6 by kernel_rfl] at f3
 obtain⟨a3,r3,v3,b3⟩:=(opa_TL0 hB) n _ _ f3
 have f4:DataW.trod enc Tryz.prog w 0 (λ_=>true) true n 182 ((cs.drop 9).take (Tryz.prog.cellsOf 182))=some x4:=hf 4 _ rfl
 rw[show Tryz.prog.cellsOf 182=1 by kernel_rfl] at f4
 obtain⟨a4,r4,v4,b4⟩:=(λm=>cb (e:=184) (sz:=6) hB Tryz.underlying182 kr (λk _=>(opa_TL0 hB) k)) n _ _ f4
 refine⟨⟨a0,a1,a2,a3,a4⟩,?_,?_,?_⟩
 ·rw[jx]
  have hcs:ar (Mem.of w) _ (cs.drop 0):=(ar.cut (k:=1) r0 (by rw[List.drop_drop];exact(ar.cut (k:=1) r1 (by rw[List.drop_drop];exact(ar.cut (k:=1) r2 (by rw[List.drop_drop];exact(ar.cut (k:=6) r3 (by rw[List.drop_drop];exact(ar.cut (k:=1) r4 (by rw[List.drop_drop];exact(show ar (Mem.of w) [] (cs.drop 10) from List.drop_eq_nil_of_le (by omega))))))))))))
  exact hcs
 ·rw[jx];exact⟨v0,⟨v1,⟨v2,⟨v3,⟨v4,trivial⟩⟩⟩⟩⟩
 rw[jx]
 have:=hB.agg ([x0,x1,x2,x3,x4].map (·.1))
 simp only[List.map_cons,List.map_nil,List.sum_cons,List.sum_nil] at this ⊢
 simp only[dsz,dszs] at*
 omega
theorem opa_TP0 {H:Type} {enc:TypeId×Value→H} {w:World} {B:DataW H→Nat} (hB:BulkOk B): ∀m,OpnAt enc Tryz.prog w 191 aZ B m:=by
 intro m
 induction m using Nat.strongRecOn with
 |ind m ih=>
 intro cs x h
 obtain⟨xs,n,rfl,rfl,hlen,hxl,hf⟩:=DataW.trod_struct Tryz.underlying191 h
 have hct:Tryz.prog.cellsOf 191=15:=by kernel_rfl
 rw[hct] at hlen
 obtain⟨x0,x1,x2,x3,x4,rfl⟩: ∃x0 x1 x2 x3 x4,xs=[x0,x1,x2,x3,x4]:=by
  match xs,hxl with
  |[x0,x1,x2,x3,x4],_=>exact⟨x0,x1,x2,x3,x4,rfl⟩
 have f0:DataW.trod enc Tryz.prog w 0 (λ_=>true) true n 9 ((cs.drop 0).take (Tryz.prog.cellsOf 9))=some x0:=hf 0 _ rfl
 rw[show Tryz.prog.cellsOf 9=1 by kernel_rfl] at f0
 obtain⟨a0,r0,v0,b0⟩:=(λ_=>dJ hB Tryz.underlying9) n _ _ f0
 have f1:DataW.trod enc Tryz.prog w 0 (λ_=>true) true n 22 ((cs.drop 1).take (Tryz.prog.cellsOf 22))=some x1:=hf 1 _ rfl
 rw[show Tryz.prog.cellsOf 22=1 by kernel_rfl] at f1
 obtain⟨a1,r1,v1,b1⟩:=(λ_=>sk hB Tryz.underlying22) n _ _ f1
 have f2:DataW.trod enc Tryz.prog w 0 (λ_=>true) true n 176 ((cs.drop 2).take (Tryz.prog.cellsOf 176))=some x2:=hf 2 _ rfl
 rw[show Tryz.prog.cellsOf 176=6 by kernel_rfl] at f2
 obtain⟨a2,r2,v2,b2⟩:=(zZ hB) n _ _ f2
 have f3:DataW.trod enc Tryz.prog w 0 (λ_=>true) true n 176 ((cs.drop 8).take (Tryz.prog.cellsOf 176))=some x3:=hf 3 _ rfl
 rw[show Tryz.prog.cellsOf 176=6 by kernel_rfl] at f3
 obtain⟨a3,r3,v3,b3⟩:=(zZ hB) n _ _ f3
 have f4:DataW.trod enc Tryz.prog w 0 (λ_=>true) true n 28 ((cs.drop 14).take (Tryz.prog.cellsOf 28))=some x4:=hf 4 _ rfl
 rw[show Tryz.prog.cellsOf 28=1 by kernel_rfl] at f4
 obtain⟨a4,r4,v4,b4⟩:=(cb (m:=n) (e:=191) (sz:=15) hB Tryz.underlying28 kr (λk hk=>ih k (by omega))) _ _ f4
 refine⟨⟨a0,a1,a2,a3,a4⟩,?_,?_,?_⟩
 ·rw[ii]
  have hcs:ar (Mem.of w) _ (cs.drop 0):=(ar.cut (k:=1) r0 (by rw[List.drop_drop];exact(ar.cut (k:=1) r1 (by rw[List.drop_drop];exact(ar.cut (k:=6) r2 (by rw[List.drop_drop];exact(ar.cut (k:=6) r3 (by rw[List.drop_drop];exact(ar.cut (k:=1) r4 (by rw[List.drop_drop];exact(show ar (Mem.of w) [] (cs.drop 15) from List.drop_eq_nil_of_le (by omega))))))))))))
  exact hcs
 ·rw[ii];exact⟨v0,⟨v1,⟨v2,⟨v3,⟨v4,trivial⟩⟩⟩⟩⟩
 rw[ii]
 have:=hB.agg ([x0,x1,x2,x3,x4].map (·.1))
 simp only[List.map_cons,List.map_nil,List.sum_cons,List.sum_nil] at this ⊢
 simp only[dsz,dszs] at*
 omega
theorem opa_TS0 {H:Type} {enc:TypeId×Value→H} {w:World} {B:DataW H→Nat} (hB:BulkOk B): ∀m,OpnAt enc Tryz.prog w 178 dz B m:=by
 intro m
 induction m using Nat.strongRecOn with
 |ind m ih=>
 intro cs x h
 obtain⟨xs,n,rfl,rfl,hlen,hxl,hf⟩:=DataW.trod_struct Tryz.underlying178 h
 have hct:Tryz.prog.cellsOf 178=7:=by kernel_rfl
 rw[hct] at hlen
 obtain⟨x0,x1,rfl⟩: ∃x0 x1,xs=[x0,x1]:=by
  match xs,hxl with
  |[x0,x1],_=>exact⟨x0,x1,rfl⟩
 have f0:DataW.trod enc Tryz.prog w 0 (λ_=>true) true n 9 ((cs.drop 0).take (Tryz.prog.cellsOf 9))=some x0:=hf 0 _ rfl
 rw[show Tryz.prog.cellsOf 9=1 by kernel_rfl] at f0
 obtain⟨a0,r0,v0,b0⟩:=(λ_=>dJ hB Tryz.underlying9) n _ _ f0
 have f1:DataW.trod enc Tryz.prog w 0 (λ_=>true) true n 176 ((cs.drop 1).take (Tryz.prog.cellsOf 176))=some x1:=hf 1 _ rfl
 rw[show Tryz.prog.cellsOf 176=6 by kernel_rfl] at f1
 obtain⟨a1,r1,v1,b1⟩:=(zZ hB) n _ _ f1
 refine⟨⟨a0,a1⟩,?_,?_,?_⟩
 ·rw[ij]
  have hcs:ar (Mem.of w) _ (cs.drop 0):=(ar.cut (k:=1) r0 (by rw[List.drop_drop];exact(ar.cut (k:=6) r1 (by rw[List.drop_drop];exact(show ar (Mem.of w) [] (cs.drop 7) from List.drop_eq_nil_of_le (by omega))))))
  exact hcs
 ·rw[ij];exact⟨v0,⟨v1,trivial⟩⟩
 rw[ij]
 have:=hB.agg ([x0,x1].map (·.1))
 simp only[List.map_cons,List.map_nil,List.sum_cons,List.sum_nil] at this ⊢
 simp only[dsz,dszs] at*
 omega
theorem opa_TE0 {H:Type} {enc:TypeId×Value→H} {w:World} {B:DataW H→Nat} (hB:BulkOk B): ∀m,OpnAt enc Tryz.prog w 181 iJ B m:=by
 intro m
 induction m using Nat.strongRecOn with
 |ind m ih=>
 intro cs x h
 obtain⟨xs,n,rfl,rfl,hlen,hxl,hf⟩:=DataW.trod_struct Tryz.underlying181 h
 have hct:Tryz.prog.cellsOf 181=8:=by kernel_rfl
 rw[hct] at hlen
 obtain⟨x0,x1,x2,rfl⟩: ∃x0 x1 x2,xs=[x0,x1,x2]:=by
  match xs,hxl with
  |[x0,x1,x2],_=>exact⟨x0,x1,x2,rfl⟩
 have f0:DataW.trod enc Tryz.prog w 0 (λ_=>true) true n 9 ((cs.drop 0).take (Tryz.prog.cellsOf 9))=some x0:=hf 0 _ rfl
 rw[show Tryz.prog.cellsOf 9=1 by kernel_rfl] at f0
 obtain⟨a0,r0,v0,b0⟩:=(λ_=>dJ hB Tryz.underlying9) n _ _ f0
 have f1:DataW.trod enc Tryz.prog w 0 (λ_=>true) true n 9 ((cs.drop 1).take (Tryz.prog.cellsOf 9))=some x1:=hf 1 _ rfl
 rw[show Tryz.prog.cellsOf 9=1 by kernel_rfl] at f1
 obtain⟨a1,r1,v1,b1⟩:=(λ_=>dJ hB Tryz.underlying9) n _ _ f1
 have f2:DataW.trod enc Tryz.prog w 0 (λ_=>true) true n 176 ((cs.drop 2).take (Tryz.prog.cellsOf 176))=some x2:=hf 2 _ rfl
 rw[show Tryz.prog.cellsOf 176=6 by kernel_rfl] at f2
 obtain⟨a2,r2,v2,b2⟩:=(zZ hB) n _ _ f2
 refine⟨⟨a0,a1,a2⟩,?_,?_,?_⟩
 ·rw[jv]
  have hcs:ar (Mem.of w) _ (cs.drop 0):=(ar.cut (k:=1) r0 (by rw[List.drop_drop];exact(ar.cut (k:=1) r1 (by rw[List.drop_drop];exact(ar.cut (k:=6) r2 (by rw[List.drop_drop];exact(show ar (Mem.of w) [] (cs.drop 8) from List.drop_eq_nil_of_le (by omega))))))))
  exact hcs
 ·rw[jv];exact⟨v0,⟨v1,⟨v2,trivial⟩⟩⟩
 rw[jv]
 have:=hB.agg ([x0,x1,x2].map (·.1))
 simp only[List.map_cons,List.map_nil,List.sum_cons,List.sum_nil] at this ⊢
 simp only[dsz,dszs] at*
 omega
theorem opa_TB0_TC0 {H:Type} {enc:TypeId×Value→H} {w:World} {B:DataW H→Nat} (hB:BulkOk B): ∀m,OpnAt enc Tryz.prog w 125 bV B m∧OpnAt enc Tryz.prog w 32 aW B m:=by
 intro m
 induction m using Nat.strongRecOn with
 |ind m ih=>
 refine⟨?_,?_⟩
 ·skip
  intro cs x h
  obtain⟨xs,n,rfl,rfl,hlen,hxl,hf⟩:=DataW.trod_struct Tryz.underlying125 h
  have hct:Tryz.prog.cellsOf 125=7:=by kernel_rfl
  rw[hct] at hlen
  obtain⟨x0,x1,x2,x3,x4,x5,x6,rfl⟩: ∃x0 x1 x2 x3 x4 x5 x6,xs=[x0,x1,x2,x3,x4,x5,x6]:=by
   match xs,hxl with
   |[x0,x1,x2,x3,x4,x5,x6],_=>exact⟨x0,x1,x2,x3,x4,x5,x6,rfl⟩
  have f0:DataW.trod enc Tryz.prog w 0 (λ_=>true) true n 9 ((cs.drop 0).take (Tryz.prog.cellsOf 9))=some x0:=hf 0 _ rfl
  rw[show Tryz.prog.cellsOf 9=1 by kernel_rfl] at f0
  obtain⟨a0,r0,v0,b0⟩:=(λ_=>dJ hB Tryz.underlying9) n _ _ f0
  have f1:DataW.trod enc Tryz.prog w 0 (λ_=>true) true n 9 ((cs.drop 1).take (Tryz.prog.cellsOf 9))=some x1:=hf 1 _ rfl
  rw[show Tryz.prog.cellsOf 9=1 by kernel_rfl] at f1
  obtain⟨a1,r1,v1,b1⟩:=(λ_=>dJ hB Tryz.underlying9) n _ _ f1
  have f2:DataW.trod enc Tryz.prog w 0 (λ_=>true) true n 9 ((cs.drop 2).take (Tryz.prog.cellsOf 9))=some x2:=hf 2 _ rfl
  rw[show Tryz.prog.cellsOf 9=1 by kernel_rfl] at f2
  obtain⟨a2,r2,v2,b2⟩:=(λ_=>dJ hB Tryz.underlying9) n _ _ f2
  have f3:DataW.trod enc Tryz.prog w 0 (λ_=>true) true n 122 ((cs.drop 3).take (Tryz.prog.cellsOf 122))=some x3:=hf 3 _ rfl
  rw[show Tryz.prog.cellsOf 122=1 by kernel_rfl] at f3
  obtain⟨a3,r3,v3,b3⟩:=(cb (m:=n) (e:=178) (sz:=7) hB Tryz.underlying122 kr (λk _=>(opa_TS0 hB) k)) _ _ f3
  have f4:DataW.trod enc Tryz.prog w 0 (λ_=>true) true n 58 ((cs.drop 4).take (Tryz.prog.cellsOf 58))=some x4:=hf 4 _ rfl
  rw[show Tryz.prog.cellsOf 58=1 by kernel_rfl] at f4
  obtain⟨a4,r4,v4,b4⟩:=(cb (m:=n) (e:=9) (sz:=1) hB Tryz.underlying58 kr (λk _=>(λ_=>dJ hB Tryz.underlying9) k)) _ _ f4
  have f5:DataW.trod enc Tryz.prog w 0 (λ_=>true) true n 4 ((cs.drop 5).take (Tryz.prog.cellsOf 4))=some x5:=hf 5 _ rfl
  rw[show Tryz.prog.cellsOf 4=1 by kernel_rfl] at f5
  obtain⟨a5,r5,v5,b5⟩:=(λ_=>ry hB Tryz.underlying4) n _ _ f5
  have f6:DataW.trod enc Tryz.prog w 0 (λ_=>true) true n 123 ((cs.drop 6).take (Tryz.prog.cellsOf 123))=some x6:=hf 6 _ rfl
  rw[show Tryz.prog.cellsOf 123=1 by kernel_rfl] at f6
  obtain⟨a6,r6,v6,b6⟩:=(cb (m:=n) (e:=32) (sz:=4) hB Tryz.underlying123 kr (λk hk=>(ih k (by omega)).2)) _ _ f6
  refine⟨⟨a0,a1,a2,a3,a4,a5,a6⟩,?_,?_,?_⟩
  ·rw[eY]
   have hcs:ar (Mem.of w) _ (cs.drop 0):=(ar.cut (k:=1) r0 (by rw[List.drop_drop];exact(ar.cut (k:=1) r1 (by rw[List.drop_drop];exact(ar.cut (k:=1) r2 (by rw[List.drop_drop];exact(ar.cut (k:=1) r3 (by rw[List.drop_drop];exact(ar.cut (k:=1) r4 (by rw[List.drop_drop];exact(ar.cut (k:=1) r5 (by rw[List.drop_drop];exact(ar.cut (k:=1) r6 (by rw[List.drop_drop];exact(show ar (Mem.of w) [] (cs.drop 7) from List.drop_eq_nil_of_le (by omega))))))))))))))))
   exact hcs
  ·rw[eY];exact⟨v0,⟨v1,⟨v2,⟨v3,⟨v4,⟨v5,⟨v6,trivial⟩⟩⟩⟩⟩⟩⟩
  rw[eY]
  have:=hB.agg ([x0,x1,x2,x3,x4,x5,x6].map (·.1))
  simp only[List.map_cons,List.map_nil,List.sum_cons,List.sum_nil] at this ⊢
  simp only[dsz,dszs] at*
  omega
 skip
 intro cs x h
 obtain⟨xs,n,rfl,rfl,hlen,hxl,hf⟩:=DataW.trod_struct Tryz.underlying32 h
 have hct:Tryz.prog.cellsOf 32=4:=by kernel_rfl
 rw[hct] at hlen
 obtain⟨x0,x1,x2,x3,rfl⟩: ∃x0 x1 x2 x3,xs=[x0,x1,x2,x3]:=by
  match xs,hxl with
  |[x0,x1,x2,x3],_=>exact⟨x0,x1,x2,x3,rfl⟩
 have f0:DataW.trod enc Tryz.prog w 0 (λ_=>true) true n 27 ((cs.drop 0).take (Tryz.prog.cellsOf 27))=some x0:=hf 0 _ rfl
 rw[show Tryz.prog.cellsOf 27=1 by kernel_rfl] at f0
 obtain⟨a0,r0,v0,b0⟩:=(cb (m:=n) (e:=245) (sz:=10) hB Tryz.underlying27 kr (λk _=>(opa_TG0 hB) k)) _ _ f0
 have f1:DataW.trod enc Tryz.prog w 0 (λ_=>true) true n 28 ((cs.drop 1).take (Tryz.prog.cellsOf 28))=some x1:=hf 1 _ rfl
 rw[show Tryz.prog.cellsOf 28=1 by kernel_rfl] at f1
 obtain⟨a1,r1,v1,b1⟩:=(cb (m:=n) (e:=191) (sz:=15) hB Tryz.underlying28 kr (λk _=>(opa_TP0 hB) k)) _ _ f1
 have f2:DataW.trod enc Tryz.prog w 0 (λ_=>true) true n 29 ((cs.drop 2).take (Tryz.prog.cellsOf 29))=some x2:=hf 2 _ rfl
 rw[show Tryz.prog.cellsOf 29=1 by kernel_rfl] at f2
 obtain⟨a2,r2,v2,b2⟩:=(cb (m:=n) (e:=125) (sz:=7) hB Tryz.underlying29 kr (λk hk=>(ih k (by omega)).1)) _ _ f2
 have f3:DataW.trod enc Tryz.prog w 0 (λ_=>true) true n 30 ((cs.drop 3).take (Tryz.prog.cellsOf 30))=some x3:=hf 3 _ rfl
 rw[show Tryz.prog.cellsOf 30=1 by kernel_rfl] at f3
 obtain⟨a3,r3,v3,b3⟩:=(cb (m:=n) (e:=181) (sz:=8) hB Tryz.underlying30 kr (λk _=>(opa_TE0 hB) k)) _ _ f3
 refine⟨⟨a0,a1,a2,a3⟩,?_,?_,?_⟩
 ·rw[eZ]
  have hcs:ar (Mem.of w) _ (cs.drop 0):=(ar.cut (k:=1) r0 (by rw[List.drop_drop];exact(ar.cut (k:=1) r1 (by rw[List.drop_drop];exact(ar.cut (k:=1) r2 (by rw[List.drop_drop];exact(ar.cut (k:=1) r3 (by rw[List.drop_drop];exact(show ar (Mem.of w) [] (cs.drop 4) from List.drop_eq_nil_of_le (by omega))))))))))
  exact hcs
 ·rw[eZ];exact⟨v0,⟨v1,⟨v2,⟨v3,trivial⟩⟩⟩⟩
 rw[eZ]
 have:=hB.agg ([x0,x1,x2,x3].map (·.1))
 simp only[List.map_cons,List.map_nil,List.sum_cons,List.sum_nil] at this ⊢
 simp only[dsz,dszs] at*
 omega
theorem opa_TC0 {H:Type} {enc:TypeId×Value→H} {w:World} {B:DataW H→Nat} (hB:BulkOk B) (m:Nat):OpnAt enc Tryz.prog w 32 aW B m:=(opa_TB0_TC0 hB m).2
theorem zY {H:Type} {enc:TypeId×Value→H} {w:World} {B:DataW H→Nat} (hB:BulkOk B): ∀m,OpnAt enc Tryz.prog w 186 aj B m:=by
 intro m
 induction m using Nat.strongRecOn with
 |ind m ih=>
 intro cs x h
 obtain⟨xs,n,rfl,rfl,hlen,hxl,hf⟩:=DataW.trod_struct Tryz.underlying186 h
 have hct:Tryz.prog.cellsOf 186=8:=by kernel_rfl
 rw[hct] at hlen
 obtain⟨x0,x1,x2,rfl⟩: ∃x0 x1 x2,xs=[x0,x1,x2]:=by
  match xs,hxl with
  |[x0,x1,x2],_=>exact⟨x0,x1,x2,rfl⟩
 have f0:DataW.trod enc Tryz.prog w 0 (λ_=>true) true n 9 ((cs.drop 0).take (Tryz.prog.cellsOf 9))=some x0:=hf 0 _ rfl
 rw[show Tryz.prog.cellsOf 9=1 by kernel_rfl] at f0
 obtain⟨a0,r0,v0,b0⟩:=(λ_=>dJ hB Tryz.underlying9) n _ _ f0
 have f1:DataW.trod enc Tryz.prog w 0 (λ_=>true) true n 4 ((cs.drop 1).take (Tryz.prog.cellsOf 4))=some x1:=hf 1 _ rfl
 rw[show Tryz.prog.cellsOf 4=1 by kernel_rfl] at f1
 obtain⟨a1,r1,v1,b1⟩:=(λ_=>ry hB Tryz.underlying4) n _ _ f1
 have f2:DataW.trod enc Tryz.prog w 0 (λ_=>true) true n 184 ((cs.drop 2).take (Tryz.prog.cellsOf 184))=some x2:=hf 2 _ rfl
 rw[show Tryz.prog.cellsOf 184=6 by kernel_rfl] at f2
 obtain⟨a2,r2,v2,b2⟩:=(opa_TL0 hB) n _ _ f2
 refine⟨⟨a0,a1,a2⟩,?_,?_,?_⟩
 ·rw[dg]
  have hcs:ar (Mem.of w) _ (cs.drop 0):=(ar.cut (k:=1) r0 (by rw[List.drop_drop];exact(ar.cut (k:=1) r1 (by rw[List.drop_drop];exact(ar.cut (k:=6) r2 (by rw[List.drop_drop];exact(show ar (Mem.of w) [] (cs.drop 8) from List.drop_eq_nil_of_le (by omega))))))))
  exact hcs
 ·rw[dg];exact⟨v0,⟨v1,⟨v2,trivial⟩⟩⟩
 rw[dg]
 have:=hB.agg ([x0,x1,x2].map (·.1))
 simp only[List.map_cons,List.map_nil,List.sum_cons,List.sum_nil] at this ⊢
 simp only[dsz,dszs] at*
 omega
theorem opa_TW0 {H:Type} {enc:TypeId×Value→H} {w:World} {B:DataW H→Nat} (hB:BulkOk B): ∀m,OpnAt enc Tryz.prog w 60 aI B m:=by
 intro m
 induction m using Nat.strongRecOn with
 |ind m ih=>
 intro cs x h
 obtain⟨xs,n,rfl,rfl,hlen,hxl,hf⟩:=DataW.trod_struct Tryz.underlying60 h
 have hct:Tryz.prog.cellsOf 60=6:=by kernel_rfl
 rw[hct] at hlen
 obtain⟨x0,x1,x2,x3,x4,x5,rfl⟩: ∃x0 x1 x2 x3 x4 x5,xs=[x0,x1,x2,x3,x4,x5]:=by
  match xs,hxl with
  |[x0,x1,x2,x3,x4,x5],_=>exact⟨x0,x1,x2,x3,x4,x5,rfl⟩
 have f0:DataW.trod enc Tryz.prog w 0 (λ_=>true) true n 9 ((cs.drop 0).take (Tryz.prog.cellsOf 9))=some x0:=hf 0 _ rfl
 rw[show Tryz.prog.cellsOf 9=1 by kernel_rfl] at f0
 obtain⟨a0,r0,v0,b0⟩:=(λ_=>dJ hB Tryz.underlying9) n _ _ f0
 have f1:DataW.trod enc Tryz.prog w 0 (λ_=>true) true n 9 ((cs.drop 1).take (Tryz.prog.cellsOf 9))=some x1:=hf 1 _ rfl
 rw[show Tryz.prog.cellsOf 9=1 by kernel_rfl] at f1
 obtain⟨a1,r1,v1,b1⟩:=(λ_=>dJ hB Tryz.underlying9) n _ _ f1
 have f2:DataW.trod enc Tryz.prog w 0 (λ_=>true) true n 9 ((cs.drop 2).take (Tryz.prog.cellsOf 9))=some x2:=hf 2 _ rfl
 rw[show Tryz.prog.cellsOf 9=1 by kernel_rfl] at f2
 obtain⟨a2,r2,v2,b2⟩:=(λ_=>dJ hB Tryz.underlying9) n _ _ f2
 have f3:DataW.trod enc Tryz.prog w 0 (λ_=>true) true n 24 ((cs.drop 3).take (Tryz.prog.cellsOf 24))=some x3:=hf 3 _ rfl
 rw[show Tryz.prog.cellsOf 24=1 by kernel_rfl] at f3
 obtain⟨a3,r3,v3,b3⟩:=(λm=>cb (e:=186) (sz:=8) hB Tryz.underlying24 kr (λk _=>(zY hB) k)) n _ _ f3
 have f4:DataW.trod enc Tryz.prog w 0 (λ_=>true) true n 4 ((cs.drop 4).take (Tryz.prog.cellsOf 4))=some x4:=hf 4 _ rfl
 rw[show Tryz.prog.cellsOf 4=1 by kernel_rfl] at f4
 obtain⟨a4,r4,v4,b4⟩:=(λ_=>ry hB Tryz.underlying4) n _ _ f4
 have f5:DataW.trod enc Tryz.prog w 0 (λ_=>true) true n 58 ((cs.drop 5).take (Tryz.prog.cellsOf 58))=some x5:=hf 5 _ rfl
 rw[show Tryz.prog.cellsOf 58=1 by kernel_rfl] at f5
 obtain⟨a5,r5,v5,b5⟩:=(λm=>cb (e:=9) (sz:=1) hB Tryz.underlying58 kr (λk _=>(λ_=>dJ hB Tryz.underlying9) k)) n _ _ f5
 refine⟨⟨a0,a1,a2,a3,a4,a5⟩,?_,?_,?_⟩
 ·rw[ee]
  have hcs:ar (Mem.of w) _ (cs.drop 0):=(ar.cut (k:=1) r0 (by rw[List.drop_drop];exact(ar.cut (k:=1) r1 (by rw[List.drop_drop];exact(ar.cut (k:=1) r2 (by rw[List.drop_drop];exact(ar.cut (k:=1) r3 (by rw[List.drop_drop];exact(ar.cut (k:=1) r4 (by rw[List.drop_drop];exact(ar.cut (k:=1) r5 (by rw[List.drop_drop];exact(show ar (Mem.of w) [] (cs.drop 6) from List.drop_eq_nil_of_le (by omega))))))))))))))
  exact hcs
 ·rw[ee];exact⟨v0,⟨v1,⟨v2,⟨v3,⟨v4,⟨v5,trivial⟩⟩⟩⟩⟩⟩
 rw[ee]
 have:=hB.agg ([x0,x1,x2,x3,x4,x5].map (·.1))
 simp only[List.map_cons,List.map_nil,List.sum_cons,List.sum_nil] at this ⊢
 simp only[dsz,dszs] at*
 omega
theorem opa_TJ0 {H:Type} {enc:TypeId×Value→H} {w:World} {B:DataW H→Nat} (hB:BulkOk B): ∀m,OpnAt enc Tryz.prog w 26 ez B m:=by
 intro m
 induction m using Nat.strongRecOn with
 |ind m ih=>
 intro cs x h
 obtain⟨xs,n,rfl,rfl,hlen,hxl,hf⟩:=DataW.trod_struct Tryz.underlying26 h
 have hct:Tryz.prog.cellsOf 26=8:=by kernel_rfl
 rw[hct] at hlen
 obtain⟨x0,x1,x2,x3,x4,x5,x6,x7,rfl⟩: ∃x0 x1 x2 x3 x4 x5 x6 x7,xs=[x0,x1,x2,x3,x4,x5,x6,x7]:=by
  match xs,hxl with
  |[x0,x1,x2,x3,x4,x5,x6,x7],_=>exact⟨x0,x1,x2,x3,x4,x5,x6,x7,rfl⟩
 have f0:DataW.trod enc Tryz.prog w 0 (λ_=>true) true n 23 ((cs.drop 0).take (Tryz.prog.cellsOf 23))=some x0:=hf 0 _ rfl
 rw[show Tryz.prog.cellsOf 23=1 by kernel_rfl] at f0
 obtain⟨a0,r0,v0,b0⟩:=(λm=>cb (e:=60) (sz:=6) hB Tryz.underlying23 kr (λk _=>(opa_TW0 hB) k)) n _ _ f0
 have f1:DataW.trod enc Tryz.prog w 0 (λ_=>true) true n 23 ((cs.drop 1).take (Tryz.prog.cellsOf 23))=some x1:=hf 1 _ rfl
 rw[show Tryz.prog.cellsOf 23=1 by kernel_rfl] at f1
 obtain⟨a1,r1,v1,b1⟩:=(λm=>cb (e:=60) (sz:=6) hB Tryz.underlying23 kr (λk _=>(opa_TW0 hB) k)) n _ _ f1
 have f2:DataW.trod enc Tryz.prog w 0 (λ_=>true) true n 23 ((cs.drop 2).take (Tryz.prog.cellsOf 23))=some x2:=hf 2 _ rfl
 rw[show Tryz.prog.cellsOf 23=1 by kernel_rfl] at f2
 obtain⟨a2,r2,v2,b2⟩:=(λm=>cb (e:=60) (sz:=6) hB Tryz.underlying23 kr (λk _=>(opa_TW0 hB) k)) n _ _ f2
 have f3:DataW.trod enc Tryz.prog w 0 (λ_=>true) true n 24 ((cs.drop 3).take (Tryz.prog.cellsOf 24))=some x3:=hf 3 _ rfl
 rw[show Tryz.prog.cellsOf 24=1 by kernel_rfl] at f3
 obtain⟨a3,r3,v3,b3⟩:=(λm=>cb (e:=186) (sz:=8) hB Tryz.underlying24 kr (λk _=>(zY hB) k)) n _ _ f3
 have f4:DataW.trod enc Tryz.prog w 0 (λ_=>true) true n 9 ((cs.drop 4).take (Tryz.prog.cellsOf 9))=some x4:=hf 4 _ rfl
 rw[show Tryz.prog.cellsOf 9=1 by kernel_rfl] at f4
 obtain⟨a4,r4,v4,b4⟩:=(λ_=>dJ hB Tryz.underlying9) n _ _ f4
 have f5:DataW.trod enc Tryz.prog w 0 (λ_=>true) true n 24 ((cs.drop 5).take (Tryz.prog.cellsOf 24))=some x5:=hf 5 _ rfl
 rw[show Tryz.prog.cellsOf 24=1 by kernel_rfl] at f5
 obtain⟨a5,r5,v5,b5⟩:=(λm=>cb (e:=186) (sz:=8) hB Tryz.underlying24 kr (λk _=>(zY hB) k)) n _ _ f5
 have f6:DataW.trod enc Tryz.prog w 0 (λ_=>true) true n 3 ((cs.drop 6).take (Tryz.prog.cellsOf 3))=some x6:=hf 6 _ rfl
 rw[show Tryz.prog.cellsOf 3=1 by kernel_rfl] at f6
 obtain⟨a6,r6,v6,b6⟩:=(λ_=>sk hB Tryz.underlying3) n _ _ f6
 have f7:DataW.trod enc Tryz.prog w 0 (λ_=>true) true n 22 ((cs.drop 7).take (Tryz.prog.cellsOf 22))=some x7:=hf 7 _ rfl
 rw[show Tryz.prog.cellsOf 22=1 by kernel_rfl] at f7
 obtain⟨a7,r7,v7,b7⟩:=(λ_=>sk hB Tryz.underlying22) n _ _ f7
 refine⟨⟨a0,a1,a2,a3,a4,a5,a6,a7⟩,?_,?_,?_⟩
 ·rw[kV]
  have hcs:ar (Mem.of w) _ (cs.drop 0):=(ar.cut (k:=1) r0 (by rw[List.drop_drop];exact(ar.cut (k:=1) r1 (by rw[List.drop_drop];exact(ar.cut (k:=1) r2 (by rw[List.drop_drop];exact(ar.cut (k:=1) r3 (by rw[List.drop_drop];exact(ar.cut (k:=1) r4 (by rw[List.drop_drop];exact(ar.cut (k:=1) r5 (by rw[List.drop_drop];exact(ar.cut (k:=1) r6 (by rw[List.drop_drop];exact(ar.cut (k:=1) r7 (by rw[List.drop_drop];exact(show ar (Mem.of w) [] (cs.drop 8) from List.drop_eq_nil_of_le (by omega))))))))))))))))))
  exact hcs
 ·rw[kV];exact⟨v0,⟨v1,⟨v2,⟨v3,⟨v4,⟨v5,⟨v6,⟨v7,trivial⟩⟩⟩⟩⟩⟩⟩⟩
 rw[kV]
 have:=hB.agg ([x0,x1,x2,x3,x4,x5,x6,x7].map (·.1))
 simp only[List.map_cons,List.map_nil,List.sum_cons,List.sum_nil] at this ⊢
 simp only[dsz,dszs] at*
 omega
theorem Aq {H:Type} (l:List (DataW H)):Rows.uptoBulkAll l=(l.map Rows.uptoBulk).sum:=by
 induction l with
 |nil=>simp[Rows.uptoBulkAll]
 |cons x l ih=>simp only[Rows.uptoBulkAll,List.map_cons,List.sum_cons,ih]
theorem bulk_ok {H:Type}:BulkOk (H:=H) Rows.uptoBulk where
 one d:=by
  cases d with
  |lit l=>cases l<;>simp[Rows.uptoBulk]
  |nil=>simp[Rows.uptoBulk]
  |ptr d=>simp[Rows.uptoBulk]
  |slice elems spare=>simp[Rows.uptoBulk]
  |agg parts=>simp[Rows.uptoBulk]
  |iface t d=>simp[Rows.uptoBulk]
  |map entries=>simp[Rows.uptoBulk]
  |held h=>simp[Rows.uptoBulk]
 str l:=by simp[Rows.uptoBulk]
 slice e s:=by
  simp only[Rows.uptoBulk]
  rw[Aq e]
  omega
 agg e:=by
  simp only[Rows.uptoBulk]
  rw[Aq e]
  exact Nat.le_refl _
theorem Ar {H:Type} {d:DataW H} {l:List (DataW H)} (h:Rows.uptoSmall H l=true) (hd:d∈l):Rows.uptoBulk d≤1048576:=by
 unfold Rows.uptoSmall at h
 have h:=of_decide_eq_true h
 rw[Aq] at h
 have:=le_sum (List.mem_map_of_mem (f:=Rows.uptoBulk) hd)
 omega
end Go.Proofs.YtkmbfmdhoeibhaaGreat
end
