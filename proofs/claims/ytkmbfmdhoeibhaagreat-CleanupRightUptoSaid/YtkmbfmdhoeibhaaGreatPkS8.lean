/-
  Texts of this claim, packed (what nothing names is left out): L1, LP, L2, L4, LE, L5, L6, L7, L3, LR, L8, LPo, L3w, L8w, Op. Own work, partly printed by own programs. No condition.
-/
import Derived.Test.YtkmbfmdhoeibhaaGreatPkS7
import Derived.Test.YtkmbfmdhoeibhaaGreatPkS2
import Derived.Test.YtkmbfmdhoeibhaaGreatPkS6
import Derived.Test.YtkmbfmdhoeibhaaGreatPkS1
import Derived.Test.YtkmbfmdhoeibhaaGreatRows
set_option linter.unusedVariables false
set_option linter.unusedSimpArgs false
set_option maxHeartbeats 2000000
section
namespace Go.Proofs.YtkmbfmdhoeibhaaGreat
open Go Go.Vc Go.RowKit
variable {n:Nat}
theorem AH {α:Type} {p:α→Bool} {xs:List α} {i:Int} {x:α} (h:aq xs i=some x) (hx:p x=true) (hb: ∀y∈xs.take i.toNat,p y=false):xs.find? p=some x:=by
 obtain⟨h0,h1,h2⟩:=cH h
 have e:xs=xs.take i.toNat++x::xs.drop (i.toNat+1):=by
  obtain⟨h3,h4⟩:=List.getElem?_eq_some_iff.1 h2
  rw[←h4,←List.drop_eq_getElem_cons,List.take_append_drop]
 rw[e,List.find?_append,List.find?_eq_none.2 λy hy=>by rw[hb y hy];simp]
 simp[hx]
def ownV (s:gH) (k:Bs):Option gK:=s.aR.find? λo=>decide (o.ci=k)
def ownR (s:gH) (k:Bs):gK×Bool:=match ownV s k with|some o=>(o,true)|none=>(yK,false)
theorem own_find {α:Type} {P:α→Prop} {xs:List α} {p:α→Bool} {step:Int→Option (Lp Int (Sum Int Unit))} (hn:xs.length<n) (hs: ∀s:Int,0≤s→∀ (h:s<xs.length),∀x,aq xs s=some x→step s=bif p x then some (.br (.inl s)) else some (.nx (s+1))) (he: ∀s:Int,¬s<xs.length→step s=some (.br (.inr ()))):Tot (av step n (0:Int)) λb=>match b with|.inl i=>∃x,aq xs i=some x∧xs.find? p=some x|.inr _=>xs.find? p=none:=by
 refine Tot.lm xs (λs=>s) (λx=>p x=false) (λ_=>True) hn rfl trivial (Q:=λb:Sum Int Unit=>match b with|.inl i=>∃x,aq xs i=some x∧xs.find? p=some x|.inr _=>xs.find? p=none) λs h1 _ hm=>?_
 by_cases h2:s<xs.length
 ·obtain⟨x,hx,hk⟩: ∃x,aq xs s=some x∧(p x=false→∀y∈xs.take (s+1).toNat,p y=false):=Tot.gm (Q:=λx=>p x=false→∀y∈xs.take (s+1).toNat,p y=false) ⟨h1,h2⟩ λx hx ht h=>ht hm h
  rw[hs s h1 h2 x hx]
  exact Tot.c (λh=>Tot.sb ⟨x,hx,AH hx h hm⟩) λh=>Tot.sn ⟨h2,rfl,hk h,trivial⟩
 rw[he s h2]
 exact Tot.sb (List.find?_eq_none.2 λy hy=>by rw[cu h2 hm y hy];simp)
theorem own_pg {s:gH} {k:Bs} (hn:10000000000001<n) (hs:s.aR.length≤100):kj n s k=some (ownR s k):=by
 suffices h:Tot (kj n s k) λr=>r=ownR s k by
  obtain⟨r,h1,h2⟩:=h
  rw[h1,h2]
 unfold kj dC
 refine Tot.b (Tot.b ((own_find (P:=λ_=>True) (xs:=s.aR) (p:=λo=>decide (o.ci=k)) (by omega) (λt h0 h1 x hx=>?_) λt h1=>?_).m λb hb=>?_))
 ·unfold dj wj
  rw[dT h1,cT,hx,bnd,bnd,bL (by omega) (by omega)]
 ·unfold dj
  rw[dF h1,Vc.cF]
 cases b with
 |inl i=>
  obtain⟨x,hx,hf⟩:=hb
  have:=(cH hx).1
  exact Tot.s (Tot.cd (λ_=>Tot.b (Tot.ge hx (Tot.s (by unfold ownR ownV;rw[hf])))) λh=>(h this).elim)
 |inr _=>exact Tot.s (Tot.cd (λh=>by simp at h) λ_=>Tot.s (by unfold ownR ownV;rw[hb]))
theorem own_rf {s:gH} {k:Bs} (hn:10000000000001<n) (hs:s.aR.length≤100):jq n s k=some (ownR s k):=by
 suffices h:Tot (jq n s k) λr=>r=ownR s k by
  obtain⟨r,h1,h2⟩:=h
  rw[h1,h2]
 unfold jq
 refine Tot.b (Tot.m (R:=λb=>match b with|.inl o=>ownV s k=some o|.inr _=>ownV s k=none) (Tot.lm s.aR (λs=>s.1) (λo=>decide (o.ci=k)=false) (λ_=>True) (by omega) rfl trivial (Q:=λb:Sum gK gK=>match b with|.inl o=>ownV s k=some o|.inr _=>ownV s k=none) λt h1 _ hm=>?_) λb hb=>?_)
 ·unfold ug
  refine Tot.cd (λh2=>?_) λh2=>Tot.sb (List.find?_eq_none.2 λy hy=>by rw[cu h2 hm y hy];simp)
  obtain⟨o,ho,hk⟩: ∃o,aq s.aR t.1=some o∧(decide (o.ci=k)=false→∀y∈s.aR.take (t.1+1).toNat,decide (y.ci=k)=false):=Tot.gm (Q:=λo:gK=>decide (o.ci=k)=false→∀y∈s.aR.take (t.1+1).toNat,decide (y.ci=k)=false) ⟨h1,h2⟩ λx hx ht h=>ht hm h
  exact Tot.b (Tot.ge ho (Tot.cd (λh=>Tot.b (Tot.ge ho (Tot.sb (AH ho (dT h) hm)))) λh=>Tot.i (by omega) (Tot.sn ⟨h2,rfl,hk (dF h),trivial⟩)))
 cases b with
 |inl o=>exact Tot.s (by unfold ownR;rw[hb])
 |inr _=>exact Tot.s (by unfold ownR;rw[hb])
theorem owned_rf {s:gH} {k:Bs} (hn:10000000000001<n) (hs:s.aR.length≤100):gq n s k=some (ownR s k):=by
 suffices h:Tot (gq n s k) λr=>r=ownR s k by
  obtain⟨r,h1,h2⟩:=h
  rw[h1,h2]
 unfold gq
 refine Tot.b (Tot.m (R:=λb=>match b with|.inl o=>ownV s k=some o|.inr _=>ownV s k=none) (Tot.lm s.aR (λs=>s.1) (λo=>decide (o.ci=k)=false) (λ_=>True) (by omega) rfl trivial (Q:=λb:Sum gK gK=>match b with|.inl o=>ownV s k=some o|.inr _=>ownV s k=none) λt h1 _ hm=>?_) λb hb=>?_)
 ·unfold ql
  refine Tot.cd (λh2=>?_) λh2=>Tot.sb (List.find?_eq_none.2 λy hy=>by rw[cu h2 hm y hy];simp)
  obtain⟨o,ho,hk⟩: ∃o,aq s.aR t.1=some o∧(decide (o.ci=k)=false→∀y∈s.aR.take (t.1+1).toNat,decide (y.ci=k)=false):=Tot.gm (Q:=λo:gK=>decide (o.ci=k)=false→∀y∈s.aR.take (t.1+1).toNat,decide (y.ci=k)=false) ⟨h1,h2⟩ λx hx ht h=>ht hm h
  exact Tot.b (Tot.ge ho (Tot.cd (λh=>Tot.b (Tot.ge ho (Tot.sb (AH ho (dT h) hm)))) λh=>Tot.i (by omega) (Tot.sn ⟨h2,rfl,hk (dF h),trivial⟩)))
 cases b with
 |inl o=>exact Tot.s (by unfold ownR;rw[hb])
 |inr _=>exact Tot.s (by unfold ownR;rw[hb])
def goO (s:gH) (c:cV):Option gK:=if c.aA=4∨c.aA=3 then ownV s c.ci else none
def goFrom (s:gH):Nat→Cv→List (Int×gK)|_,[]=>[]|i,c::cs=>match goO s c with|some o=>((i:Int),o)::goFrom s (i+1) cs|none=>goFrom s (i+1) cs
theorem Bu {s:gH} {x:Int×gK}: ∀ {l:Cv} {i:Nat},x∈goFrom s i l↔ ∃k,∃h:k<l.length,x.1=(i:Int)+k∧goO s l[k]=some x.2
 |[],i=>by simp[goFrom]
 |c::cs,i=>by
  unfold goFrom
  have ih:=Bu (s:=s) (x:=x) (l:=cs) (i:=i+1)
  have tail:x∈goFrom s (i+1) cs↔ ∃k,∃h:k+1<(c::cs).length,x.1=(i:Int)+ ((k+1:Nat):Int)∧goO s (c::cs)[k+1]=some x.2:=by
   rw[ih]
   constructor
   ·rintro⟨k,h,e1,e2⟩;exact⟨k,by simp;omega,by omega,e2⟩
   rintro⟨k,h,e1,e2⟩;exact⟨k,by simp at h;omega,by omega,e2⟩
  constructor
  ·intro h
   split at h
   ·rename_i o ho
    rcases List.mem_cons.1 h with h|h
    ·exact⟨0,by simp,by simp[h],by rw[h];exact ho⟩
    obtain⟨k,hk,e⟩:=tail.1 h;exact⟨k+1,hk,e⟩
   obtain⟨k,hk,e⟩:=tail.1 h;exact⟨k+1,hk,e⟩
  rintro⟨k,hk,e1,e2⟩
  cases k with
  |zero=>
   simp at e1 e2
   rw[e2]
   exact List.mem_cons.2 (.inl (by cases x;simp at e1 ⊢;exact e1))
  |succ k=>
   have:=tail.2 ⟨k,hk,e1,e2⟩
   split
   ·exact List.mem_cons_of_mem _ this
   exact this
theorem xE {s:gH}: ∀ {l:Cv} {i:Nat},(goFrom s i l).length≤l.length
 |[],i=>by simp[goFrom]
 |c::cs,i=>by
  have:=xE (s:=s) (l:=cs) (i:=i+1)
  unfold goFrom
  split<;>simp<;>omega
theorem going_pg {w:bH} (hn:10000000000001<n) (hs:Sml w): ∀ (m k:Nat),k≤w.am.length→w.am.length-k<m→goingL n w m k=some (goFrom w.bI k (w.am.drop k)):=by
 intro m
 induction m with
 |zero=>intro k _ h;omega
 |succ m ihm=>
  intro k hk hm
  have hc:=hs.ch
  unfold goingL
  by_cases h:k<w.am.length
  ·have ih:=ihm (k+1) (by omega) (by omega)
   rw[show(((k+1:Nat)):Int)=(k:Int)+1 by omega] at ih
   rw[dT (by omega),cT,bw h,bnd,List.drop_eq_getElem_cons h]
   unfold goFrom goO
   by_cases h4:w.am[k].aA=4
   ·rw[dT h4,nT,Vc.cF,bnd,Vc.cF,if_pos (.inl h4),own_pg hn hs.ow]
    unfold ownR
    cases ownV w.bI w.am[k].ci with
    |some o=>rw[bnd,bnd,cT,bL (by omega) (by omega),ih,bnd]
    |none=>rw[bnd,bnd,Vc.cF,bL (by omega) (by omega),ih]
   rw[dF h4,nF,cT,bnd]
   by_cases h3:w.am[k].aA=3
   ·rw[dT h3,nT,Vc.cF,if_pos (.inr h3),own_pg hn hs.ow]
    unfold ownR
    cases ownV w.bI w.am[k].ci with
    |some o=>rw[bnd,bnd,cT,bL (by omega) (by omega),ih,bnd]
    |none=>rw[bnd,bnd,Vc.cF,bL (by omega) (by omega),ih]
   rw[dF h3,nF,cT,if_neg (by omega),bL (by omega) (by omega),ih]
  rw[dF (by omega),Vc.cF,List.drop_eq_nil_of_le (by omega)];rfl
def goV (w:bH):List (Int×gK):=goFrom w.bI 0 w.am
theorem goV_pg {w:bH} (hn:10000000000001<n) (hs:Sml w) (ho:Okt w):goingV n w=some (goV w):=by
 have hc:=hs.ch
 unfold goingV
 rw[AL hn w hs ho,bnd,nT,Vc.cF]
 exact going_pg hn hs n 0 (by omega) (by omega)
def goesV (w:bH):CD:=((goV w).filter λx=> !x.2.bV).map (·.1)
def leftV (w:bH):CD:=((goV w).filter λx=>x.2.bV).map (·.1)
theorem fold_app {α β:Type} {Y:List β→α→Option (Lp (List β) Empty)} {p:α→Bool} {f:α→β} {B:Nat}: ∀ (xs:List α) (acc:List β),acc.length+xs.length≤B→(∀a x,a.length<B→Y a x=some (.nx (bif p x then a++[f x] else a)))→iN Y xs acc=some (.nx (acc++(xs.filter p).map f))
 |[],acc,_,_=>by simp[iN]
 |x::xs,acc,hl,h=>by
  simp only[List.length_cons] at hl
  unfold iN
  rw[h acc x (by omega)]
  simp only[Option.bind_some]
  rw[fold_app xs _ (by cases p x<;>simp<;>omega) h]
  cases e:p x<;>simp[List.filter_cons,e]
theorem goes_pg {w:bH} (hn:10000000000001<n) (hs:Sml w) (ho:Okt w):oa n w=some (goesV w):=by
 have hc:=hs.ch
 have hl: (goV w).length≤w.am.length:=xE
 unfold oa
 rw[goV_pg hn hs ho,bnd,fold_app (p:=λx:Int×gK=> !x.2.bV) (f:=(·.1)) (B:=3000000) _ _ (by simp;omega) λa x ha=>by
  unfold uv
  cases x.2.bV with
  |true=>rfl
  |false=>rw[nF,cT,di (by omega)];rfl]
 rfl
theorem Bv {w:bH} {x:Int}:x∈goesV w↔ ∃k,∃h:k<w.am.length,x=k∧∃o,goO w.bI w.am[k]=some o∧o.bV=false:=by
 unfold goesV goV
 simp only[List.mem_map,List.mem_filter,Bu,Bool.not_eq_true',Prod.exists]
 constructor
 ·rintro⟨i,o,⟨⟨k,hk,e1,e2⟩,h⟩,rfl⟩;exact⟨k,hk,by simp at e1;exact e1,o,e2,h⟩
 rintro⟨k,hk,rfl,o,e2,h⟩;exact⟨k,o,⟨⟨k,hk,by simp,e2⟩,h⟩,rfl⟩
theorem parts_len {w:bH}: (goesV w).length+ (leftV w).length≤w.am.length:=by
 have hl: (goV w).length≤w.am.length:=xE
 have h: ∀l:List (Int×gK),((l.filter λx=> !x.2.bV).map (·.1)).length+ ((l.filter λx=>x.2.bV).map (·.1)).length=l.length:=λl=>by
  induction l with
  |nil=>rfl
  |cons x l ih=>
   simp only[List.length_map] at ih ⊢
   cases e:x.2.bV<;>simp[List.filter_cons,e]<;>omega
 have:=h (goV w)
 unfold goesV leftV
 omega
open Go.Ck
variable {n:Nat}
abbrev F9:=dq
theorem task_find {w:bH} {i p:Int} (hn:10000000000001<n) (ht:w.an.length≤10000000):Tot (jg n w i p) λr=>match w.an.find? (isT i p) with|some t=>r=(t,true)|none=>r.2=false:=by
 unfold jg lW
 refine Tot.b (Tot.b (Tot.m (R:=λb=>match b with|.inl y=>∃t,w.an.find? (isT i p)=some t∧y=t|.inr _=>w.an.find? (isT i p)=none) (Tot.lm w.an (λs:Int×F9=>s.1) (λt=>isT i p t=false) (λ_=>True) (by omega) rfl trivial (Q:=λb:Sum F9 F9=>match b with|.inl y=>∃t,w.an.find? (isT i p)=some t∧y=t|.inr _=>w.an.find? (isT i p)=none) λs h1 _ hm=>?_) λb hb=>?_))
 ·unfold gL kz
  refine Tot.cd (λh2=>?_) λh2=>Tot.sb (List.find?_eq_none.2 λy hy=>by rw[cu h2 hm y hy];simp)
  obtain⟨t,he,hk⟩: ∃t,aq w.an s.1=some t∧(isT i p t=false→∀y∈w.an.take (s.1+1).toNat,isT i p y=false):=Tot.gm (Q:=λt=>isT i p t=false→∀y∈w.an.take (s.1+1).toNat,isT i p y=false) ⟨h1,h2⟩ λx hx ht h=>ht hm h
  refine Tot.b (Tot.ge he (Tot.b (Tot.m (R:=λb=>b=isT i p t) (Tot.cd (λh=>Tot.s (by simp[isT,h])) λh=>Tot.s (by simp[isT,h])) λb hb=>Tot.c (λh=>Tot.b (Tot.ge he (Tot.sb ⟨t,AH he (by rw[←hb,h]) hm,rfl⟩))) λh=>Tot.i (by omega) (Tot.sn ⟨h2,rfl,hk (by rw[←hb,h]),trivial⟩))))
 cases b with
 |inl y=>
  obtain⟨t,ht,rfl⟩:=hb
  exact Tot.s (Tot.s (by rw[ht]))
 |inr y=>exact Tot.s (Tot.s (by dsimp only at hb;rw[hb]))
def tSL (w:bH) (i:Int):Int:=match w.an.find? (isT i 2) with|none=>1|some t=>if t.bW=0 then 2 else if t.bW=1 then 3 else 4
def st0 (w:bH):CD:=(List.range w.am.length).map λ (i:Nat)=>if (i:Int)∈goesV w then tSL w i else 0
theorem jQ {w:bH}: (st0 w).length=w.am.length:=by simp[st0]
theorem st0_at {w:bH} {i:Nat} (h:i<w.am.length): (st0 w).getD i 0=if (i:Int)∈goesV w then tSL w i else 0:=by simp[st0,List.getD,h]
def ownW (w:bH):bH:=⟨w.aA,w.co,w.bI,w.ig,w.be,w.bG,w.am.map λc=>⟨c.ci,c.aA,c.bB,c.bk,c.bV,c.sq,c.bI,(ownR w.bI c.ci).1.bA⟩,w.an,w.aJ,w.cm⟩
theorem enumF_map {α β:Type} (g:α→β): ∀ (l:List α) (i:Int),enumF i (l.map g)=(enumF i l).map λp=>(p.1,g p.2)
 |[],_=>rfl
 |x::l,i=>by simp only[List.map_cons,enumF,enumF_map g l]
theorem backI_map {α β:Type} (g:α→β) (l:List α):backI (l.map g)=(backI l).map λp=>(p.1,g p.2):=by
 unfold backI;rw[enumF_map,List.map_reverse]
theorem foldY_map {σ α α' β:Type} {Y:σ→α→Option (Lp σ β)} {Y':σ→α'→Option (Lp σ β)} {h:α→α'} (hh: ∀s x,Y' s (h x)=Y s x): ∀ (l:List α) (s:σ),iN Y' (l.map h) s=iN Y l s
 |[],_=>rfl
 |x::l,s=>by
  simp only[List.map_cons,iN,hh]
  congr 1
  funext r
  cases r with
  |nx s'=>exact foldY_map hh l s'
  |br b=>rfl
theorem vl {α β:Type} (g:α→β) (l:List α) (i:Int):aq (l.map g) i=(aq l i).map g:=by
 unfold aq
 split
 ·rw[List.getElem?_map]
 rfl
theorem BC {α β γ:Type} (x:Option α) (g:α→β) (f:β→Option γ): (x.map g).bind f=x.bind λa=>f (g a):=by cases x<;>rfl
theorem leans_true {w:bH} (hn:10000000000001<n) (hs:Sml w):dc n w true=dc n (ownW w) false:=by
 unfold dc
 have e1: (ownW w).am.length=w.am.length:=by simp[ownW]
 have e2:iN (jM n) (backI (ownW w).am) ([]:List (Bs×Int))=iN (jM n) (backI w.am) []:=by
  unfold ownW
  rw[backI_map]
  exact foldY_map (λs x=>rfl) _ _
 have e3: ∀s2,dU n (ownW w) false s2=dU n w true s2:=λs2=>by
  funext s3
  unfold dU
  rw[e1]
  unfold ownW
  dsimp only
  rw[vl,BC]
  simp only[eta_S,own_pg hn hs.ow,cond_true,cond_false,Option.bind_some]
 rw[e1,e2]
 simp only[e3]
theorem leansR_true {w:bH} (hn:10000000000001<n) (hs:Sml w):gp n w true=gp n (ownW w) false:=by
 unfold gp
 have e1: (ownW w).am.length=w.am.length:=by simp[ownW]
 have e2: ∀ (l:Cv) (id:Bs),kc n (l.map λc=>(⟨c.ci,c.aA,c.bB,c.bk,c.bV,c.sq,c.bI,(ownR w.bI c.ci).1.bA⟩:cV)) id=kc n l id:=λl id=>by
  unfold kc
  have:gE n (l.map λc=>(⟨c.ci,c.aA,c.bB,c.bk,c.bV,c.sq,c.bI,(ownR w.bI c.ci).1.bA⟩:cV)) id=gE n l id:=by
   funext s
   unfold gE
   rw[vl,BC,List.length_map]
  rw[this]
 have e4: ∀y,eN n (ownW w) y=eN n w y:=λy=>by
  funext s
  unfold eN ownW
  dsimp only
  simp only[e2]
 have e3:eM n (ownW w) false=eM n w true:=by
  funext s
  unfold eM
  rw[e1]
  simp only[e4]
  unfold ownW
  dsimp only
  rw[vl,BC]
  cases aq w.am s.2 with
  |none=>rfl
  |some x=>simp only[owned_rf hn hs.ow,cond_true,cond_false,Option.bind_some]
 rw[e3]
theorem ownW_sml {w:bH} (hs:Sml w) (ho: ∀o∈w.bI.aR,o.bA.length≤60):Sml (ownW w):=⟨by simpa [ownW] using hs.ch,hs.tk,λc hc=>by
 obtain⟨d,_,rfl⟩:=List.mem_map.1 hc
 dsimp only
 unfold ownR
 cases e:ownV w.bI d.ci with
 |some o=>have:=ho o (List.mem_of_find?_eq_some e);dsimp only;omega
 |none=>decide,hs.ow,hs.pe,hs.re⟩
theorem leans_pg {w:bH} (hn:10000000000001<n) (hs:Sml w) (ho: ∀o∈w.bI.aR,o.bA.length≤60): ∃R,dc n w true=some R∧LeansOf (ownW w).am R:=by
 have h:=ownW_sml hs ho
 rw[leans_true hn hs]
 exact leans_own hn (ownW w) h.ch h.ln
theorem st0_rng {w:bH} (i:Nat) (h:i<(st0 w).length):0≤(st0 w).getD i 0∧(st0 w).getD i 0≤4:=by
 rw[jQ] at h
 rw[st0_at h]
 unfold tSL
 split
 ·split
  ·simp
  split
  ·simp
  split<;>simp
 simp
theorem goes_rng {w:bH} {x:Int} (h:x∈goesV w):0≤x∧x<w.am.length:=by
 obtain⟨k,hk,rfl,_⟩:=Bv.1 h
 omega
theorem mget3 {x:Int} (h:0≤x∧x≤2): ((eS (jv (jv (jv ([]:List (Int×Int)) (0:Int) (2:Int)) (1:Int) (3:Int)) (2:Int) (4:Int)) x).getD (0:Int))=if x=0 then 2 else if x=1 then 3 else 4:=by
 have:x=0∨x=1∨x=2:=by omega
 rcases this with rfl|rfl|rfl<;>decide
theorem okt_state {w:bH} (ho:Okt w) {t:dq} (ht:t∈w.an):0≤t.bW∧t.bW≤2:=by
 obtain⟨k,hk,rfl⟩:=List.getElem_of_mem ht
 have:=ho.tk k hk
 omega
theorem states_pg {w:bH} (hn:10000000000001<n) (hs:Sml w) (ho:Okt w) (hl: ∀o∈w.bI.aR,o.bA.length≤60): ∃R,LeansOf (ownW w).am R∧R.length=w.am.length∧dc n w true=some R∧mayB R (st0 w)=true∧eA n w=some (settledL (turnedL R) (st0 w)):=by
 obtain⟨R,hR,hL⟩:=leans_pg hn hs hl
 have hc:=hs.ch
 have hRl:R.length=w.am.length:=by rw[hL.len];simp[ownW]
 have hm:mayB R (st0 w)=true:=mayB_of (by rw[jQ,hRl]) (λi hi=>by have:=st0_rng i hi;omega) (leans_in hL)
 have hG: (goesV w).length≤w.am.length:=by have:=parts_len (w:=w);omega
 refine⟨R,hL,hRl,hR,hm,?_⟩
 suffices h:Tot (eA n w) λr=>r=settledL (turnedL R) (st0 w) by
  obtain⟨r,h1,h2⟩:=h
  rw[h1,h2]
 unfold eA
 refine Tot.b (Tot.ge (AL hn w hs ho) (Tot.cn (Tot.ct ?_)))
 refine Tot.n (by omega) (Tot.b (Tot.ge (goes_pg hn hs ho) ?_))
 refine Tot.b (Tot.m (R:=λr=>r=st0 w) (Tot.li (λs=>s.2) (λs=>s.2≤(goesV w).length∧s.1.length=w.am.length∧∀i:Nat,i<w.am.length→s.1.getD i 0=if (i:Int)∈ (goesV w).take s.2.toNat then tSL w i else 0) (goesV w).length (by omega) ⟨by simp,by simp,by simp,λi hi=>by simp[List.getD,List.getElem?_replicate,hi]⟩ λs h1 ⟨h2,h3,h4⟩=>?_) λy hy=>?_)
 ·unfold qv
  refine Tot.cd (λh5=>Tot.b (Tot.gy ⟨h1,h5⟩ λx hx hxm=>?_)) λh5=>Tot.sb ?_
  ·have hr:=goes_rng hxm
   have e: (s.2+1).toNat=s.2.toNat+1:=by omega
   have key: ∀o:CD,o.length=w.am.length→(∀i:Nat,i<w.am.length→o.getD i 0=if (i:Int)=x then tSL w x else s.1.getD i 0)→∀i:Nat,i<w.am.length→o.getD i 0=if (i:Int)∈ (goesV w).take (s.2+1).toNat then tSL w i else 0:=λo _ h i hi=>by
    rw[h i hi,e,tk1 hx]
    by_cases e1: (i:Int)=x
    ·rw[if_pos e1,if_pos (List.mem_append.2 (.inr (by simp[e1]))),e1]
    rw[if_neg e1,h4 i hi]
    by_cases e2: (i:Int)∈ (goesV w).take s.2.toNat
    ·rw[if_pos e2,if_pos (List.mem_append_left _ e2)]
    rw[if_neg e2,if_neg λh=>(List.mem_append.1 h).elim e2 λh=>e1 (List.mem_singleton.1 h)]
   refine Tot.b (Tot.gy (by omega) λ_ _ _=>Tot.b ((task_find hn hs.tk).m λr hr'=>?_))
   cases e3:w.an.find? (isT x 2) with
   |some t=>
    rw[e3] at hr'
    dsimp only at hr'
    subst hr'
    have hst:=okt_state ho (List.mem_of_find?_eq_some e3)
    refine Tot.ct (Tot.b (Tot.gy (by simp;omega) λ_ _ _=>Tot.i (by omega) (Tot.sn ⟨h5,by dsimp only;omega,by dsimp only;omega,by simp[h3],key _ (by simp[h3]) λi hi=>?_⟩)))
    rw[wm (by simp;omega),wm (by omega),mget3 hst]
    by_cases e1: (i:Int)=x
    ·rw[if_pos (by omega),if_pos e1];unfold tSL;rw[e3]
    rw[if_neg (by omega),if_neg (by omega),if_neg e1]
   |none=>
    rw[e3] at hr'
    dsimp only at hr'
    rw[hr']
    refine Tot.cf (Tot.i (by omega) (Tot.sn ⟨h5,by dsimp only;omega,by dsimp only;omega,by simp[h3],key _ (by simp[h3]) λi hi=>?_⟩))
    rw[wm (by omega)]
    by_cases e1: (i:Int)=x
    ·rw[if_pos (by omega),if_pos e1];unfold tSL;rw[e3]
    rw[if_neg (by omega),if_neg e1]
  refine list_eq (by rw[h3,jQ]) λi hi=>?_
  rw[h3] at hi
  rw[h4 i hi,st0_at hi,List.take_of_length_le (by omega)]
 subst hy
 refine Tot.b (Tot.ge hR (Tot.b (Tot.ge (settle_eq R (st0 w) true (xX hL (by simpa [ownW] using hc)) (by omega)) (Tot.s ?_))))
 rw[hm];rfl
variable {n:Nat}
def flyV (w:bH):CD:=(w.an.filter λt=>decide (t.bW=0)).map (·.cP.gX)
theorem zy {α:Type} {xs:List α} {p:α→Bool} {i:Int} {x:α} (h:aq xs i=some x): (xs.take (i.toNat+1)).filter p=(xs.take i.toNat).filter p++(bif p x then [x] else []):=by
 rw[tk1 h,List.filter_append]
 cases e:p x<;>simp[List.filter_cons,e]
theorem fly_pg {w:bH} (hn:10000000000001<n) (ht:w.an.length≤10000000):eE n w=some (flyV w):=by
 suffices h:Tot (eE n w) λr=>r=flyV w by
  obtain⟨r,h1,h2⟩:=h
  rw[h1,h2]
 unfold eE
 refine Tot.b (Tot.m (R:=λr=>r=flyV w) (Tot.li (λs=>s.2) (λs=>s.2≤w.an.length∧s.1.length≤s.2∧s.1=((w.an.take s.2.toNat).filter λt=>decide (t.bW=0)).map (·.cP.gX)) w.an.length (by omega) (by simp) λs h1 ⟨h2,h3,h4⟩=>?_) λr hr=>Tot.s hr)
 unfold qw
 have e: (s.2+1).toNat=s.2.toNat+1:=by omega
 refine Tot.cd (λh5=>Tot.b (Tot.gy ⟨h1,h5⟩ λt hte _=>Tot.cd (λh6=>Tot.n (by omega) (Tot.i (by omega) (Tot.sn ⟨h5,by dsimp only;omega,by dsimp only;omega,by simp;omega,?_⟩))) λh6=>Tot.i (by omega) (Tot.sn ⟨h5,by dsimp only;omega,by dsimp only;omega,by dsimp only;omega,?_⟩))) λh5=>Tot.sb ?_
 ·dsimp only;rw[e,zy hte,dT h6,h4];simp
 ·dsimp only;rw[e,zy hte,dF h6,h4];simp
 unfold flyV;rw[h4,List.take_of_length_le (by omega)]
theorem contains_pg {l:CD} {x:Int} (hn:10000000000001<n) (hl:l.length≤3000000):Tot (ed n l x) λb=>(b=true↔x∈l):=by
 unfold ed jC
 refine Tot.b (Tot.b (Tot.m (R:=λb=>match b with|.inl i=>0≤i∧x∈l|.inr _=>x∉l) (Tot.lm l (λs=>s) (λy=>y≠x) (λ_=>True) (by omega) rfl trivial (Q:=λb:Sum Int Unit=>match b with|.inl i=>0≤i∧x∈l|.inr _=>x∉l) λs h1 _ hm=>?_) λb hb=>?_))
 ·unfold la
  exact Tot.cd (λh3=>Tot.b (Tot.gm ⟨h1,h3⟩ λy hy ht=>Tot.cd (λh=>Tot.sb ⟨h1,h▸hy⟩) λh=>Tot.i (by omega) (Tot.sn ⟨h3,rfl,ht hm λe=>h e.symm,trivial⟩))) λh3=>Tot.sb λh=>cu h3 hm x h rfl
 cases b with
 |inl i=>exact Tot.s (Tot.s (by simp[hb.1,hb.2]))
 |inr _=>exact Tot.s (Tot.s (by simp;exact hb))
theorem pick_mem {Q:CD→(Int→Bool)→Bool} {is:Int→Bool} {l:LL} {st:CD} {x:Int} (h:x∈sel (pickF Q is l st) st.length): ∃k:Nat,x=k∧k<st.length∧st.getD k 0=1:=by
 obtain⟨k,e,hk,hp⟩:=oM.1 h
 unfold pickF at hp
 simp only[Bool.and_eq_true,decide_eq_true_eq] at hp
 exact⟨k,e,hk,hp.1⟩
theorem backI_mem {α:Type} {l:List α} {p:Int×α} (h:p∈backI l): ∃k:Nat,∃h:k<l.length,p=((k:Int),l[k]):=by
 have hm: ∀ (l:List α) (i:Nat),p∈enumF (i:Int) l→∃k:Nat,∃h:k<l.length,p=(((i+k:Nat):Int),l[k]):=λl=>by
  induction l with
  |nil=>intro i h;cases h
  |cons x l ih=>
   intro i h
   rcases List.mem_cons.1 h with h|h
   ·exact⟨0,by simp,by simpa using h⟩
   obtain⟨k,hk,e⟩:=ih (i+1) (by simpa using h)
   exact⟨k+1,by simp;omega,by rw[e];simp;omega⟩
 obtain⟨k,hk,e⟩:=hm l 0 (by unfold backI at h;simpa using h)
 exact⟨k,hk,by simpa using e⟩
theorem fold_first {st:List (Int×Int)}: ∃r,iN (lB n) st ()=some r∧∀b,r=.br b→∃p∈st,p.2=1∧b=[p.1]:=by
 induction st with
 |nil=>exact⟨_,rfl,λb h=>by cases h⟩
 |cons p st ih=>
  unfold iN lB
  by_cases h:p.2=1
  ·rw[dT h]
   exact⟨_,rfl,λb e=>⟨p,by simp,h,by injection e with e;exact e.symm⟩⟩
  rw[dF h]
  obtain⟨r,h1,h2⟩:=ih
  exact⟨r,h1,λb e=>by obtain⟨q,hq,g⟩:=h2 b e;exact⟨q,List.mem_cons_of_mem _ hq,g⟩⟩
noncomputable def stV (w:bH) (R:LL):CD:=settledL (turnedL R) (st0 w)
theorem stV_len {w:bH} {R:LL}: (stV w R).length=w.am.length:=by unfold stV;rw[wh,jQ]
theorem stV_wait {w:bH} {R:LL} {k:Nat} (hk:k<w.am.length) (h: (stV w R).getD k 0=1): (st0 w).getD k 0=1:=by
 rcases lP (l:=turnedL R) (st:=st0 w) (i:=k) (by rw[jQ];exact hk) with⟨_,_,e⟩|⟨_,e⟩
 ·unfold stV at h;rw[e] at h;cases h
 unfold stV at h;rw[e] at h;exact h
structure Wr (n:Nat) (w:bH) (R:LL):Prop where
 sm:Sml w
 ok:Okt w
 le: ∀o∈w.bI.aR,OwOK o
 L:LeansOf (ownW w).am R
 len:R.length=w.am.length
 lr:dc n w true=some R
 may:mayB R (st0 w)=true
 st:eA n w=some (stV w R)
theorem Wr.mk' {w:bH} (hn:10000000000001<n) (hs:Sml w) (ho:Okt w) (hl: ∀o∈w.bI.aR,OwOK o): ∃R,Wr n w R:=by
 obtain⟨R,h1,h2,h3,h4,h5⟩:=states_pg hn hs ho λo h=>(hl o h).2.1
 exact⟨R,hs,ho,hl,h1,h2,h3,h4,h5⟩
def rdyV (w:bH) (R:LL) (st:CD):CD:=sel (pickF allQr letsB (turnedL R) st) st.length
theorem ready_pg {w:bH} {R:LL} (hn:10000000000001<n) (h:Wr n w R):Tot (ee n w) λr=>(r=[]∨w.aJ=2∧((flyV w).length:Int)<w.co)∧r.length≤w.am.length∧∀x∈r,x∈rdyV w R (stV w R)∨(rdyV w R (stV w R)=[]∧flyV w=[]∧∃k:Nat,x=k∧k<w.am.length∧(stV w R).getD k 0=1):=by
 have hc:=h.sm.ch
 have hl:=stV_len (w:=w) (R:=R)
 have hm:mayB R (stV w R)=true:=settled_may h.may
 unfold ee
 refine Tot.b (Tot.ge h.st (Tot.b (Tot.ge (fly_pg hn h.sm.tk) (Tot.b (Tot.m (R:=λb=>b=false→w.aJ=2∧((flyV w).length:Int)<w.co) (Tot.cn (Tot.cd (λh2=>Tot.s λh3=>⟨h2,by have:=of_decide_eq_false h3;omega⟩) λ_=>Tot.s (by simp))) λb hb=>Tot.c (λ_=>Tot.s ⟨.inl rfl,by simp,by simp⟩) λhf=>?_)))))
 have hpw:=hb hf
 have hrl: (rdyV w R (stV w R)).length≤w.am.length:=by rw[←hl];exact yH _ _
 refine Tot.b (Tot.ge h.lr (Tot.b (Tot.ge (ready_eq R (stV w R) true (xX h.L (by simpa [ownW] using hc)) (by omega)) ?_)))
 have e:readyR R (stV w R) true=rdyV w R (stV w R):=by unfold readyR rdyL rdyV;rw[hm];rfl
 rw[e]
 have hbase: (rdyV w R (stV w R)=[]∨w.aJ=2∧((flyV w).length:Int)<w.co)∧(rdyV w R (stV w R)).length≤w.am.length∧∀x∈rdyV w R (stV w R),x∈rdyV w R (stV w R)∨(rdyV w R (stV w R)=[]∧flyV w=[]∧∃k:Nat,x=k∧k<w.am.length∧(stV w R).getD k 0=1):=⟨.inr hpw,by omega,λx hx=>.inl hx⟩
 refine Tot.b (Tot.m (R:=λb=>b=true→rdyV w R (stV w R)=[]∧flyV w=[]) (Tot.cd (λh0=>Tot.s λh1=>⟨List.eq_nil_of_length_eq_zero (by dsimp only at h0;omega),List.eq_nil_of_length_eq_zero (by have:=of_decide_eq_true h1;omega)⟩) λ_=>Tot.s (by simp)) λb hb=>Tot.c (λhb2=>?_) λ_=>Tot.s hbase)
 obtain⟨q1,q2⟩:=hb hb2
 obtain⟨r,hr1,hr2⟩:=fold_first (n:=n) (st:=backI (stV w R))
 refine Tot.n (by omega) (Tot.b (Tot.ge hr1 ?_))
 cases r with
 |nx _=>exact Tot.s hbase
 |br b=>
  obtain⟨p,hp,hp1,rfl⟩:=hr2 b rfl
  obtain⟨k,hk,rfl⟩:=backI_mem hp
  refine Tot.s ⟨.inr hpw,by simp;omega,λx hx=>.inr ⟨q1,q2,k,List.mem_singleton.1 hx,by omega,?_⟩⟩
  rw[List.getD_eq_getElem?_getD,List.getElem?_eq_getElem hk]
  exact hp1
theorem ready_wait {w:bH} {R:LL} {x:Int} (h:x∈rdyV w R (stV w R)∨(rdyV w R (stV w R)=[]∧flyV w=[]∧∃k:Nat,x=k∧k<w.am.length∧(stV w R).getD k 0=1)): ∃k:Nat,∃h:k<w.am.length,x=k∧(k:Int)∈goesV w∧w.an.find? (isT k 2)=none:=by
 have: ∃k:Nat,x=k∧k<w.am.length∧(stV w R).getD k 0=1:=by
  rcases h with h|⟨_,_,h⟩
  ·obtain⟨k,e,hk,h1⟩:=pick_mem h
   exact⟨k,e,by rw[stV_len] at hk;exact hk,h1⟩
  exact h
 obtain⟨k,e,hk,h1⟩:=this
 have h0:=stV_wait hk h1
 rw[st0_at hk] at h0
 refine⟨k,hk,e,?_⟩
 by_cases hg: (k:Int)∈goesV w
 ·rw[if_pos hg] at h0
  unfold tSL at h0
  cases hf:w.an.find? (isT k 2) with
  |none=>exact⟨hg,rfl⟩
  |some t=>
   rw[hf] at h0
   dsimp only at h0
   split at h0
   ·cases h0
   split at h0<;>cases h0
 rw[if_neg hg] at h0;cases h0
abbrev setT (w:bH) (ts:List dq):bH:=⟨w.aA,w.co,w.bI,w.ig,w.be,w.bG,w.am,ts,w.aJ,w.cm⟩
abbrev setP (w:bH) (p s:Int):bH:=⟨w.aA,w.co,w.bI,w.ig,w.be,w.bG,w.am,w.an,p,s⟩
def newT (w:bH) (i:Int) (p:Bs):dq:=⟨i,2,⟨(w.an.length:Int)+1,2,p,[],[]⟩,0,[]⟩
theorem start_pg {w:bH} {R:LL} {rd:CD} {k:Nat} (hn:10000000000001<n) (h:Wr n w R) (hp:w.aJ=2) (hr:ee n w=some rd) (hrl:rd.length≤3000000) (hi: (k:Int)∈rd) (hk:k<w.am.length):ii n w k=some (setT w (w.an++[newT w k (ownR w.bI w.am[k].ci).1.bm]),⟨(w.an.length:Int)+1,2,(ownR w.bI w.am[k].ci).1.bm,[],[]⟩,0):=by
 have ht:=h.sm.tk
 suffices q:Tot (ii n w k) λr=>r=(setT w (w.an++[newT w k (ownR w.bI w.am[k].ci).1.bm]),⟨(w.an.length:Int)+1,2,(ownR w.bI w.am[k].ci).1.bm,[],[]⟩,0) by
  obtain⟨r,h1,h2⟩:=q
  rw[h1,h2]
 unfold ii
 refine Tot.b (Tot.m (R:=λr=>r=0) (Tot.b (Tot.ge (AL hn w h.sm h.ok) (Tot.cn (Tot.ct ?_)))) λy hy=>?_)
 ·rw[dT hp]
  refine Tot.cf (Tot.b (Tot.ge hr (Tot.b ((contains_pg hn hrl).m λb hb=>?_))))
  rw[hb.2 hi]
  exact Tot.cn (Tot.ct (Tot.s rfl))
 subst hy
 refine Tot.cf (Tot.b (Tot.m (R:=λo=>o=(ownR w.bI w.am[k].ci).1) (Tot.b (Tot.ge (bw hk) ?_)) λy hy=>?_))
 ·exact Tot.b (Tot.ge (own_pg hn h.sm.ow) (Tot.s rfl))
 subst hy
 have e:w.an.take (w.an.length:Int).toNat=w.an:=List.take_of_length_le (by simp)
 rw[e]
 exact Tot.i (by omega) (Tot.b (Tot.n (by omega) (Tot.n (by omega) (Tot.s (Tot.s rfl)))))
theorem wo {i p:Int} {t:dq}:isT i p t=true↔t.aX=i∧t.aJ=p:=by unfold isT;simp
theorem start_ok {w:bH} {k:Nat} {p:Bs} (h:Okt w) (hk:k<w.am.length) (hf:w.an.find? (isT k 2)=none):Okt (setT w (w.an++[newT w k p])):=by
 refine⟨h.wd,h.ph,h.ck,λj hj=>?_,λi j hi hj hij=>?_,h.ah⟩
 ·simp only[List.length_append,List.length_singleton] at hj
  by_cases e:j<w.an.length
  ·simp only[List.getElem_append_left e];exact h.tk j e
  have:j=w.an.length:=by omega
  subst this
  simp only[List.getElem_concat_length]
  unfold newT
  dsimp only
  omega
 simp only[List.length_append,List.length_singleton] at hi hj
 by_cases e:j<w.an.length
 ·simp only[List.getElem_append_left e,List.getElem_append_left (show i<w.an.length by omega)]
  exact h.un i j (by omega) e hij
 have:j=w.an.length:=by omega
 subst this
 simp only[List.getElem_concat_length,List.getElem_append_left (show i<w.an.length by omega)]
 unfold newT
 dsimp only
 rintro⟨e1,e2⟩
 have:=List.find?_eq_none.1 hf _ (List.getElem_mem (show i<w.an.length by omega))
 exact this (wo.2 ⟨e1,e2⟩)
def endTL (t:dq) (y:Bool):dq:=⟨t.aX,t.aJ,t.cP,bif y then 1 else 2,bif y then [] else t.bm⟩
theorem end_pg {w:bH} {k:Nat} {y:Bool} (hn:10000000000001<n) (hs:Sml w) (ho:Okt w) (hk:k<w.an.length) (h0:w.an[k].bW=0):kf n w ((k:Int)+1) ⟨true,y,[]⟩=some (setT w (w.an.set k (endTL w.an[k] y)),0):=by
 have ht:=hs.tk
 suffices q:Tot (kf n w ((k:Int)+1) ⟨true,y,[]⟩) λr=>r=(setT w (w.an.set k (endTL w.an[k] y)),0) by
  obtain⟨r,h1,h2⟩:=q
  rw[h1,h2]
 have e1: (k:Int)+1-1=k:=by omega
 unfold kf
 refine Tot.b (Tot.m (R:=λj=>j=.nx ()) (Tot.b (Tot.ge (AL hn w hs ho) (Tot.b (Tot.m (R:=λb=>b=false) (Tot.cn (Tot.ct (Tot.s rfl))) λb hb=>?_)))) λj hj=>?_)
 ·subst hb
  refine Tot.cf (Tot.b (Tot.ge (within1 (by omega) (by omega)) (Tot.cn (Tot.ct (Tot.i (by omega) ?_)))))
  rw[e1]
  refine Tot.b (Tot.ge (bw hk) ?_)
  rw[dT h0]
  exact Tot.cn (Tot.ct (Tot.s rfl))
 subst hj
 refine Tot.jn ?_
 unfold cA
 refine Tot.b (Tot.n (by omega) (Tot.s (Tot.i (by omega) ?_)))
 rw[e1]
 refine Tot.b (Tot.ge (bw hk) ?_)
 cases y with
 |true=>
  refine Tot.ct (Tot.s ?_)
  simp only[Int.toNat_natCast,List.set_set]
  rfl
 |false=>
  refine Tot.cf (Tot.s ?_)
  simp only[Int.toNat_natCast]
  rfl
theorem end_ok {w:bH} {k:Nat} {y:Bool} (h:Okt w) (hk:k<w.an.length):Okt (setT w (w.an.set k (endTL w.an[k] y))):=by
 have hf: ∀j (hj:j<(w.an.set k (endTL w.an[k] y)).length),∃hj':j<w.an.length,(w.an.set k (endTL w.an[k] y))[j].cP=w.an[j].cP∧(w.an.set k (endTL w.an[k] y))[j].aX=w.an[j].aX∧(w.an.set k (endTL w.an[k] y))[j].aJ=w.an[j].aJ∧0≤(w.an.set k (endTL w.an[k] y))[j].bW∧(w.an.set k (endTL w.an[k] y))[j].bW≤2:=λj hj=>by
  have hj':j<w.an.length:=by simpa using hj
  refine⟨hj',?_⟩
  rw[List.getElem_set]
  by_cases e:k=j
  ·subst e
   rw[if_pos rfl]
   unfold endTL
   cases y<;>simp
  rw[if_neg e]
  have:=h.tk j hj'
  exact⟨rfl,rfl,rfl,this.2.2.2.1,this.2.2.2.2.1⟩
 refine⟨h.wd,h.ph,h.ck,λj hj=>?_,λi j hi hj hij=>?_,h.ah⟩
 ·obtain⟨hj',a,b,c,d,e⟩:=hf j hj
  have:=h.tk j hj'
  dsimp only
  rw[a,b,c]
  exact⟨this.1,this.2.1,this.2.2.1,d,e,this.2.2.2.2.2⟩
 obtain⟨hi',_,b,c,_⟩:=hf i hi
 obtain⟨hj',_,b',c',_⟩:=hf j hj
 dsimp only
 rw[b,c,b',c']
 exact h.un i j hi' hj' hij
theorem st0_blk {w:bH} {k:Nat} (hk:k<w.am.length):blocksB ((st0 w).getD k 0)=true↔ (st0 w).getD k 0=4:=by
 have:=st0_rng k (by rw[jQ];exact hk)
 unfold blocksB
 simp only[Bool.or_eq_true,decide_eq_true_eq]
 omega
theorem phase_ok {w:bH} {s:Int} (h:Okt w):Okt (setP w 3 s):=⟨h.wd,by simp,h.ck,h.tk,h.un,h.ah⟩
theorem nodup_le {l m:List Nat} (h:l.Nodup) (hs: ∀x∈l,x∈m):l.length≤m.length:=by
 induction l generalizing m with
 |nil=>simp
 |cons x l ih=>
  have hx:=hs x (by simp)
  have h1:=List.length_erase_of_mem hx
  have h0:=List.length_pos_of_mem hx
  have:=ih (m:=m.erase x) (List.nodup_cons.1 h).2 λy hy=>(List.mem_erase_of_ne (λ (e:y=x)=>(List.nodup_cons.1 h).1 (e▸hy))).2 (hs y (List.mem_cons_of_mem _ hy))
  simp only[List.length_cons]
  omega
theorem gone_le {w:bH} (h:Okt w):w.an.countP (λt=>decide (t.aJ=2))≤w.am.length:=by
 have hp:w.an.Pairwise λa b=>¬ (a.aX=b.aX∧a.aJ=b.aJ):=List.pairwise_iff_getElem.2 λi j hi hj hij=>h.un i j hi hj hij
 have hr: ∀t∈w.an,0≤t.aX∧t.aX<w.am.length:=λt ht=>by
  obtain⟨k,hk,rfl⟩:=List.getElem_of_mem ht
  exact⟨(h.tk k hk).2.1,(h.tk k hk).2.2.1⟩
 rw[List.countP_eq_length_filter]
 have hn: ((w.an.filter λt=>decide (t.aJ=2)).map λt=>t.aX.toNat).Nodup:=by
  refine List.pairwise_map.2 ((hp.filter _).imp_of_mem λ {a b} ha hb hab e=>?_)
  have ha':=List.mem_filter.1 ha
  have hb':=List.mem_filter.1 hb
  have h1:=hr a ha'.1
  have h2:=hr b hb'.1
  exact hab ⟨by omega,(of_decide_eq_true ha'.2).trans (of_decide_eq_true hb'.2).symm⟩
 have:=nodup_le hn (m:=List.range w.am.length) λx hx=>by
  obtain⟨t,ht,rfl⟩:=List.mem_map.1 hx
  have:=hr t (List.mem_filter.1 ht).1
  exact List.mem_range.2 (by omega)
 simpa using this
open Go.Ck
variable {n:Nat}
structure Ev (s:gH) (kd:Int) (L:Nat) (w:bH):Prop where
 ok:Okt w
 sm:Sml w
 le: ∀o∈w.bI.aR,OwOK o
 od:w.bI=s
 kd:w.aA=kd
 lc:w.am.length=L
 pl: ∀t∈w.an,(t.aJ≠2→t.bW≠0)∧(t.aJ=2→t.aX∈goesV w)
 tl:w.an.length≤100+w.an.countP λt=>decide (t.aJ=2)
def Bad (w:bH):Prop:=∃t∈w.an,t.aJ=2∧t.bW=2
theorem same_task {w:bH} (h:Okt w) {a b:dq} (ha:a∈w.an) (hb:b∈w.an) (h1:a.aX=b.aX) (h2:a.aJ=b.aJ):a=b:=by
 obtain⟨i,hi,rfl⟩:=List.getElem_of_mem ha
 obtain⟨j,hj,rfl⟩:=List.getElem_of_mem hb
 by_cases e:i=j
 ·subst e;rfl
 by_cases l:i<j
 ·exact(h.un i j hi hj l ⟨h1,h2⟩).elim
 exact(h.un j i hj hi (by omega) ⟨h1.symm,h2.symm⟩).elim
theorem Ev.phase {s:gH} {kd p:Int} {L:Nat} {w:bH} (h:Ev s kd L w):Ev s kd L (setP w 3 p):=⟨phase_ok h.ok,⟨h.sm.ch,h.sm.tk,h.sm.ln,h.sm.ow,h.sm.pe,h.sm.re⟩,h.le,h.od,h.kd,h.lc,h.pl,h.tl⟩
theorem Ev.start {s:gH} {kd:Int} {L k:Nat} {w:bH} {p:Bs} (h:Ev s kd L w) (hk:k<w.am.length) (hg: (k:Int)∈goesV w) (hf:w.an.find? (isT k 2)=none):Ev s kd L (setT w (w.an++[newT w k p]))∧((Bad (setT w (w.an++[newT w k p])))↔Bad w)∧(flyV (setT w (w.an++[newT w k p]))).length=(flyV w).length+1∧(w.an++[newT w k p]).countP (λt=>decide (t.aJ=2))=w.an.countP (λt=>decide (t.aJ=2))+1:=by
 have hok:=start_ok (p:=p) h.ok hk hf
 have hcp: (w.an++[newT w k p]).countP (λt=>decide (t.aJ=2))=w.an.countP (λt=>decide (t.aJ=2))+1:=by
  rw[List.countP_append];simp[newT]
 have hle:=gone_le hok
 dsimp only at hle
 have hc:=h.sm.ch
 have htl:=h.tl
 refine⟨⟨hok,⟨h.sm.ch,by simp only[List.length_append,List.length_singleton];omega,h.sm.ln,h.sm.ow,h.sm.pe,h.sm.re⟩,h.le,h.od,h.kd,h.lc,λt ht=>?_,by rw[hcp];simp only[List.length_append,List.length_singleton];omega⟩,⟨?_,?_⟩,by unfold flyV;simp[newT,List.filter_append],hcp⟩
 ·rcases List.mem_append.1 ht with ht|ht
  ·exact h.pl t ht
  rw[List.mem_singleton.1 ht];exact⟨λe=>(e rfl).elim,λ_=>hg⟩
 ·rintro⟨t,ht,h1,h2⟩
  rcases List.mem_append.1 ht with ht|ht
  ·exact⟨t,ht,h1,h2⟩
  rw[List.mem_singleton.1 ht] at h2;cases h2
 rintro⟨t,ht,h1,h2⟩
 exact⟨t,List.mem_append_left _ ht,h1,h2⟩
theorem Ev.end_ {s:gH} {kd:Int} {L k:Nat} {w:bH} {y:Bool} (h:Ev s kd L w) (hk:k<w.an.length) (h0:w.an[k].bW=0):Ev s kd L (setT w (w.an.set k (endTL w.an[k] y)))∧((Bad (setT w (w.an.set k (endTL w.an[k] y))))↔ (Bad w∨y=false))∧(flyV (setT w (w.an.set k (endTL w.an[k] y)))).length+1=(flyV w).length∧(w.an.set k (endTL w.an[k] y)).countP (λt=>decide (t.aJ=2))=w.an.countP (λt=>decide (t.aJ=2)):=by
 have hok:=end_ok (y:=y) h.ok hk
 have hph:w.an[k].aJ=2:=by
  by_cases e:w.an[k].aJ=2
  ·exact e
  exact((h.pl _ (List.getElem_mem hk)).1 e h0).elim
 have hcp: (w.an.set k (endTL w.an[k] y)).countP (λt=>decide (t.aJ=2))=w.an.countP (λt=>decide (t.aJ=2)):=by
  rw[List.countP_set hk]
  have h1:0<w.an.countP (λt=>decide (t.aJ=2)):=List.countP_pos_iff.2 ⟨_,List.getElem_mem hk,by simp[hph]⟩
  simp only[endTL,hph,decide_true,if_true]
  omega
 have hfl: (flyV (setT w (w.an.set k (endTL w.an[k] y)))).length+1=(flyV w).length:=by
  unfold flyV
  simp only[List.length_map,←List.countP_eq_length_filter]
  rw[List.countP_set hk]
  have h1:0<w.an.countP (λt=>decide (t.bW=0)):=List.countP_pos_iff.2 ⟨_,List.getElem_mem hk,by simp[h0]⟩
  have h2:decide ((endTL w.an[k] y).bW=0)=false:=by cases y<;>rfl
  simp only[h0,h2,decide_true,if_true]
  simp
  omega
 have hmem: ∀t∈w.an.set k (endTL w.an[k] y),t∈w.an∨t=endTL w.an[k] y:=λt ht=>List.mem_or_eq_of_mem_set ht
 refine⟨⟨hok,⟨h.sm.ch,by rw[List.length_set];exact h.sm.tk,h.sm.ln,h.sm.ow,h.sm.pe,h.sm.re⟩,h.le,h.od,h.kd,h.lc,λt ht=>?_,by rw[hcp,List.length_set];exact h.tl⟩,⟨?_,?_⟩,hfl,hcp⟩
 ·rcases hmem t ht with ht|rfl
  ·exact h.pl t ht
  exact⟨λe=>(e hph).elim,λ_=>(h.pl _ (List.getElem_mem hk)).2 hph⟩
 ·rintro⟨t,ht,h1,h2⟩
  rcases hmem t ht with ht|rfl
  ·exact .inl ⟨t,ht,h1,h2⟩
  cases y with
  |true=>cases h2
  |false=>exact .inr rfl
 rintro(⟨t,ht,h1,h2⟩|rfl)
 ·obtain⟨i,hi,rfl⟩:=List.getElem_of_mem ht
  have e: ¬k=i:=λe=>by subst e;omega
  refine⟨w.an[i],?_,h1,h2⟩
  have: (w.an.set k (endTL w.an[k] y))[i]'(by simpa using hi)=w.an[i]:=by rw[List.getElem_set,if_neg e]
  rw[←this]
  exact List.getElem_mem _
 exact⟨endTL w.an[k] false,List.mem_set hk _,hph,rfl⟩
variable {n:Nat}
def lowM (L:Nat) (w:CD):Nat:=(w.map λx=>if x<0 then L+1 else x.toNat).sum
theorem sum_set {f:Int→Nat}: ∀ {w:CD} {i:Nat} {v:Int} (h:i<w.length),((w.set i v).map f).sum+f w[i]=(w.map f).sum+f v
 |x::w,0,v,_=>by simp;omega
 |x::w,i+1,v,h=>by
  have:=sum_set (f:=f) (w:=w) (i:=i) (v:=v) (by simpa using h)
  simp only[List.set_cons_succ,List.map_cons,List.sum_cons,List.getElem_cons_succ]
  omega
theorem sum_le {f:Int→Nat} {B:Nat}: ∀ {w:CD},(∀x∈w,f x≤B)→(w.map f).sum≤B*w.length
 |[],_=>by simp
 |x::w,h=>by
  have h1:=sum_le (f:=f) (w:=w) λy hy=>h y (List.mem_cons_of_mem _ hy)
  have h2:=h x (by simp)
  simp only[List.map_cons,List.sum_cons,List.length_cons,Nat.mul_add]
  omega
def cntW (w:CD):Nat:=w.countP λx=>decide (0≤x)
structure WI (l:List (List Int)) (t:Int) (w:List Int):Prop where
 len:w.length=l.length
 all: ∀j:Int,0≤j∧j<l.length→gw w j= -1∨(1≤gw w j∧gw w j≤cntW w)
 c: ∀j:Int,0≤j∧j<l.length→1≤gw w j→∀r,aq l j=some r→gw w j=1∨∃i∈r,i≠t∧1≤gw w i∧gw w i+1≤gw w j
theorem AF (w:CD):cntW w≤w.length:=List.countP_le_length
theorem gw_nat {w:CD} {i:Nat} (h:i<w.length):gw w (i:Int)=w[i]:=by unfold gw;rw[bw h];rfl
theorem WI.put {l:List CD} {t j0 v:Int} {w r0:CD} (hin:InOK l) (h:WI l t w) (hj:0≤j0∧j0<l.length) (hr:aq l j0=some r0) (hv:v=1∨∃i∈r0,i≠t∧1≤gw w i∧v=gw w i+1) (hl:gw w j0<0∨v<gw w j0):WI l t (w.set j0.toNat v)∧lowM l.length (w.set j0.toNat v)<lowM l.length w:=by
 have hlen:=h.len
 obtain⟨k,rfl⟩:=Int.eq_ofNat_of_zero_le hj.1
 have hk:k<w.length:=by omega
 have hg:=gw_nat hk
 rw[Int.toNat_natCast]
 have h1:1≤v:=by rcases hv with rfl|⟨i,_,_,h1,rfl⟩<;>omega
 have hcnt:cntW (w.set k v)=if gw w k<0 then cntW w+1 else cntW w:=by
  unfold cntW
  rw[List.countP_set hk,dT (show 0≤v by omega),if_pos rfl,←hg]
  by_cases e:gw w k<0
  ·rw[dF (by omega),if_pos e];simp
  have:0<w.countP λx=>decide (0≤x):=List.countP_pos_iff.2 ⟨_,List.getElem_mem hk,by rw[←hg];simp;omega⟩
  rw[dT (by omega),if_neg e,if_pos rfl];omega
 have hcv:v≤cntW (w.set k v):=by
  have hall:=h.all k hj
  rw[hcnt]
  rcases hv with rfl|⟨i,hi,_,h1,rfl⟩
  ·split<;>omega
  have hi':=hin r0 (List.mem_of_getElem? (cH hr).2.2) i hi
  have:=h.all i hi'
  split<;>omega
 have hc1:cntW w≤cntW (w.set k v):=by rw[hcnt];split<;>omega
 have hc2:=AF (w.set k v)
 rw[List.length_set] at hc2
 have gs: ∀j:Int,0≤j→gw (w.set k v) j=if j=k then v else gw w j:=λj h0=>by
  have:=Bw (xs:=w) (i:=(k:Int)) (v:=v) ⟨by omega,by omega⟩ h0
  rwa [Int.toNat_natCast] at this
 refine⟨⟨by rw[List.length_set];exact hlen,λj hj'=>?_,λj hj' hge r hr'=>?_⟩,?_⟩
 ·rw[gs j hj'.1]
  by_cases e:j=k
  ·rw[if_pos e];exact .inr ⟨h1,hcv⟩
  rw[if_neg e]
  rcases h.all j hj' with a|a
  ·exact .inl a
  exact .inr ⟨a.1,by omega⟩
 ·have hrin:=hin r (List.mem_of_getElem? (cH hr').2.2)
  rw[gs j hj'.1] at hge ⊢
  by_cases e:j=k
  ·rw[if_pos e]
   subst e
   rw[hr] at hr';injection hr' with hr';subst hr'
   rcases hv with rfl|⟨i,hi,hne,hi1,rfl⟩
   ·exact .inl rfl
   refine .inr ⟨i,hi,hne,?_⟩
   rw[gs i (hrin i hi).1]
   have: ¬i=k:=λe=>by subst e;omega
   rw[if_neg this]
   omega
  rw[if_neg e] at hge ⊢
  rcases h.c j hj' hge r hr' with a|⟨i,hi,hne,hi1,hi2⟩
  ·exact .inl a
  refine .inr ⟨i,hi,hne,?_⟩
  rw[gs i (hrin i hi).1]
  by_cases e2:i=k
  ·subst e2;rw[if_pos rfl];omega
  rw[if_neg e2];exact⟨hi1,hi2⟩
 have:=sum_set (f:=λx=>if x<0 then l.length+1 else x.toNat) (w:=w) (i:=k) (v:=v) hk
 unfold lowM
 rw[←hg,if_neg (show ¬v<0 by omega)] at this
 rcases hl with a|a
 ·rw[if_pos a] at this;omega
 rw[if_neg (by omega)] at this;omega
def Fx (t:Int) (w:CD) (j i:Int):Prop:=(i=t→gw w j=1)∧(i≠t→1≤gw w i→1≤gw w j∧gw w j≤gw w i+1)
theorem steps_row {l : List (List Int)} {t j0 : Int} {r0 : List Int} {w0 : List Int} {fl : Bool} {u3 : List Int × Bool × Int} (hn : 10000000000001 < n) (hl : RbOK l) (hin : InOK l) (hj : 0 ≤ j0 ∧ j0 < l.length) (hr : aq l j0 = some r0) (h : WI l t w0) (e3 : u3.2.2 = j0) : Tot (av (qj n l t u3) n (w0, fl, (0 : Int))) fun y => WI l t y.1 ∧ ((y.2 = true ∧ (fl = true ∨ lowM l.length y.1 < lowM l.length w0) ∧ lowM l.length y.1 ≤ lowM l.length w0) ∨ (y.2 = false ∧ fl = false ∧ y.1 = w0 ∧ ∀ i ∈ r0, Fx t w0 j0 i)) := by
  have hrm := List.mem_of_getElem? (cH hr).2.2
  have hrl := hl.2 r0 hrm
  refine Tot.li (fun s => s.2.2) (fun s => s.2.2 ≤ r0.length ∧ WI l t s.1 ∧ ((s.2.1 = true ∧ (fl = true ∨ lowM l.length s.1 < lowM l.length w0) ∧ lowM l.length s.1 ≤ lowM l.length w0) ∨ (s.2.1 = false ∧ fl = false ∧ s.1 = w0 ∧ ∀ i ∈ r0.take s.2.2.toNat, Fx t w0 j0 i))) r0.length (by omega) ⟨by simp, by simp, h, by cases fl <;> simp⟩ fun s h1 ⟨h2, h3, h4⟩ => ?_
  obtain ⟨w, f, q⟩ := s
  dsimp only at h1 h2 h3 h4
  have hlen := h3.len
  have hc := AF w
  have hl1 := hl.1
  unfold qj
  dsimp only
  rw [e3]
  refine Tot.b (Tot.ge hr (Tot.cd (fun h5 => Tot.b (Tot.ge hr (Tot.b (Tot.gy ⟨h1, h5⟩ fun i hi him => ?_)))) fun h5 => Tot.sb ?_))
  · have hir := hin r0 hrm i him
    have e : (q + 1).toNat = q.toNat + 1 := by omega
    have hall := h3.all i hir
    have hallj := h3.all j0 hj
    -- where nothing is lowered
    have keep : Fx t w j0 i → (f = false → Fx t w0 j0 i) → Tot (ar (inR .i64 (q + 1)) (some (Lp.nx (w, f, q + 1)) : Option (Lp (List Int × Bool × Int) (List Int × Bool)))) (LpP (fun s' => q < r0.length ∧ q < s'.2.2 ∧ s'.2.2 ≤ r0.length ∧ WI l t s'.1 ∧ ((s'.2.1 = true ∧ (fl = true ∨ lowM l.length s'.1 < lowM l.length w0) ∧ lowM l.length s'.1 ≤ lowM l.length w0) ∨ (s'.2.1 = false ∧ fl = false ∧ s'.1 = w0 ∧ ∀ i ∈ r0.take s'.2.2.toNat, Fx t w0 j0 i))) fun y => WI l t y.1 ∧ ((y.2 = true ∧ (fl = true ∨ lowM l.length y.1 < lowM l.length w0) ∧ lowM l.length y.1 ≤ lowM l.length w0) ∨ (y.2 = false ∧ fl = false ∧ y.1 = w0 ∧ ∀ i ∈ r0, Fx t w0 j0 i))) := fun _ hF => by
      refine Tot.i (by omega) (Tot.sn ⟨h5, by dsimp only; omega, by dsimp only; omega, h3, ?_⟩)
      rcases h4 with a | ⟨a1, a2, a3, a4⟩
      · exact .inl a
      refine .inr ⟨a1, a2, a3, fun x hx => ?_⟩
      rw [e, tk1 hi] at hx
      rcases List.mem_append.1 hx with hx | hx
      · exact a4 x hx
      rw [List.mem_singleton.1 hx]; exact hF a1
    -- where a way is found
    have found : ∀ v : Int, (v = 1 ∧ i = t ∨ i ≠ t ∧ 1 ≤ gw w i ∧ v = gw w i + 1) → -9223372036854775808 ≤ v ∧ v ≤ 9223372036854775807 → Tot (((((aq w j0).bind fun x_13 =>
        bif (decide (x_13 < 0)) then
          (some ((true)))
        else
          (aq w j0).bind fun x_15 =>
          some ((decide (v < x_15))) : Option Bool)).bind fun y_3 =>
      bif y_3 then
        ((aq w j0).bind fun x_17 =>
        ar (inR .i64 (q + 1)) <|
        some (.nx (w.set j0.toNat v, (true), q + 1)))
      else
        ar (inR .i64 (q + 1)) <|
        some (.nx (w, f, q + 1)) : Option (Lp (List Int × Bool × Int) (List Int × Bool)))) (LpP (fun s' => q < r0.length ∧ q < s'.2.2 ∧ s'.2.2 ≤ r0.length ∧ WI l t s'.1 ∧ ((s'.2.1 = true ∧ (fl = true ∨ lowM l.length s'.1 < lowM l.length w0) ∧ lowM l.length s'.1 ≤ lowM l.length w0) ∨ (s'.2.1 = false ∧ fl = false ∧ s'.1 = w0 ∧ ∀ i ∈ r0.take s'.2.2.toNat, Fx t w0 j0 i))) fun y => WI l t y.1 ∧ ((y.2 = true ∧ (fl = true ∨ lowM l.length y.1 < lowM l.length w0) ∧ lowM l.length y.1 ≤ lowM l.length w0) ∨ (y.2 = false ∧ fl = false ∧ y.1 = w0 ∧ ∀ i ∈ r0, Fx t w0 j0 i))) := fun v hv _ => by
      have hg := nj (xs := w) (i := j0) (by omega)
      refine Tot.b (Tot.m (R := fun b => b = true ↔ (gw w j0 < 0 ∨ v < gw w j0)) (Tot.b (Tot.ge hg (Tot.cd (fun h => Tot.s (by simp [h])) fun h => Tot.b (Tot.ge hg (Tot.s (by simp; omega)))))) fun b hb => Tot.c (fun hb1 => Tot.b (Tot.ge hg ?_)) fun hb1 => ?_)
      · obtain ⟨p1, p2⟩ := h3.put hin hj hr (v := v) (by rcases hv with ⟨a, _⟩ | ⟨a, b, c⟩; exact .inl a; exact .inr ⟨i, him, a, b, c⟩) (hb.1 hb1)
        refine Tot.i (by omega) (Tot.sn ⟨h5, by dsimp only; omega, by dsimp only; omega, p1, .inl ⟨rfl, .inr ?_, ?_⟩⟩)
        all_goals
          dsimp only
          rcases h4 with a | ⟨_, _, rfl, _⟩ <;> omega
      have hno : ¬ (gw w j0 < 0 ∨ v < gw w j0) := fun h => by rw [hb.2 h] at hb1; cases hb1
      have hF : Fx t w j0 i := ⟨fun e => by rcases hv with ⟨a, _⟩ | ⟨a, _⟩; · omega
                                            · exact (a e).elim, fun e _ => by rcases hv with ⟨_, a⟩ | ⟨_, _, a⟩; · exact (e a).elim
                                                                              · omega⟩
      exact keep hF fun hf => by rcases h4 with ⟨a, _⟩ | ⟨_, _, rfl, _⟩; · rw [hf] at a; cases a
                                 · exact hF
    by_cases hit : i = t
    · rw [decide_eq_true hit]
      exact Tot.b (Tot.cn (Tot.ct (Tot.s (Tot.jn (found 1 (.inl ⟨rfl, hit⟩) (by omega))))))
    rw [decide_eq_false hit]
    have hgi := nj (xs := w) (i := i) (by omega)
    refine Tot.b (Tot.cn (Tot.cf (Tot.b (Tot.ge hgi (Tot.cd (fun h => ?_) fun h => Tot.b (Tot.ge hgi (Tot.i (by omega) (Tot.s (Tot.jn (found _ (.inr ⟨hit, by omega, rfl⟩) (by omega)))))))))))
    refine Tot.mb ((keep ⟨fun e => (hit e).elim, fun _ h' => by omega⟩ fun hf => ?_).m fun y hy => Tot.jb hy)
    rcases h4 with ⟨a, _⟩ | ⟨_, _, rfl, _⟩
    · rw [hf] at a; cases a
    exact ⟨fun e => (hit e).elim, fun _ h' => by omega⟩
  rcases h4 with ⟨a1, a2, a3⟩ | ⟨a1, a2, a3, a4⟩
  · exact ⟨h3, .inl ⟨a1, a2, a3⟩⟩
  exact ⟨h3, .inr ⟨a1, a2, a3, cu h5 a4⟩⟩
def Fix (l:List CD) (t:Int) (w:CD):Prop:=∀j r,aq l j=some r→∀i∈r,Fx t w j i
theorem steps_pass {l:List CD} {t:Int} {w0:CD} (hn:10000000000001<n) (hl:RbOK l) (hin:InOK l) (h:WI l t w0):Tot (av (qi n l t) n (w0,false,(0:Int))) λy=>WI l t y.1∧((y.2=true∧lowM l.length y.1<lowM l.length w0)∨(y.2=false∧y.1=w0∧Fix l t w0)):=by
 have hl1:=hl.1
 refine Tot.li (λs=>s.2.2) (λs=>s.2.2≤l.length∧WI l t s.1∧((s.2.1=true∧lowM l.length s.1<lowM l.length w0)∨(s.2.1=false∧s.1=w0∧∀j:Int,j<s.2.2→∀r,aq l j=some r→∀i∈r,Fx t w0 j i))) l.length (by omega) ⟨by simp,by simp,h,.inr ⟨rfl,rfl,λj hj r hr=>by have:=(cH hr).1;dsimp only at hj;omega⟩⟩ λs h1 ⟨h2,h3,h4⟩=>?_
 unfold qi
 refine Tot.cd (λh5=>?_) λh5=>Tot.sb ⟨h3,?_⟩
 ·obtain⟨r0,hr,_⟩: ∃r,aq l s.2.2=some r∧True:=Tot.gy (Q:=λ_=>True) ⟨h1,h5⟩ λ_ _ _=>trivial
  refine Tot.b ((steps_row hn hl hin ⟨h1,h5⟩ hr h3 rfl).m λy ⟨y1,y2⟩=>Tot.i (by omega) (Tot.sn ⟨h5,by dsimp only;omega,by dsimp only;omega,y1,?_⟩))
  rcases y2 with⟨a,b,c⟩|⟨a,b,c,d⟩
  ·refine .inl ⟨a,?_⟩
   dsimp only
   rcases h4 with⟨_,e⟩|⟨e1,e2,_⟩
   ·omega
   rcases b with b|b
   ·rw[e1] at b;cases b
   rw[←e2];exact b
  rcases h4 with⟨e,_⟩|⟨e1,e2,e3⟩
  ·rw[b] at e;cases e
  refine .inr ⟨a,by dsimp only;rw[c,e2],λj hj r hr' i hi=>?_⟩
  dsimp only at hj
  by_cases e:j=s.2.2
  ·subst e;rw[hr] at hr';injection hr' with hr';subst hr';rw[←e2];exact d i hi
  exact e3 j (by omega) r hr' i hi
 rcases h4 with a|⟨a,b,c⟩
 ·exact .inl a
 exact .inr ⟨a,b,λj r hr=>c j (by have:=(cH hr).2.1;omega) r hr⟩
theorem low_bound {l:List CD} {t:Int} {w:CD} (hl:l.length≤10000000) (h:WI l t w):lowM l.length w≤100000010000000:=by
 have hlen:=h.len
 have hc:=AF w
 have h1:lowM l.length w≤(l.length+1)*w.length:=sum_le λx hx=>by
  obtain⟨k,hk,rfl⟩:=List.getElem_of_mem hx
  have:=h.all k (by omega)
  rw[gw_nat hk] at this
  split<;>omega
 have h2: (l.length+1)*w.length≤10000001*10000000:=Nat.mul_le_mul (by omega) (by omega)
 omega
theorem steps20 {l:List CD} {t:Int} (hN:10000000000000000000<n) (hl:RbOK l) (hin:InOK l):Tot (qV n l t) λw=>WI l t w∧Fix l t w:=by
 have hn:10000000000001<n:=by omega
 have hl1:=hl.1
 unfold qV
 refine Tot.n (by omega) (Tot.b (Tot.m (R:=λw=>w.length=l.length∧∀j:Int,0≤j∧j<l.length→gw w j= -1) (Tot.li (λs=>s.2) (λs=>s.2≤l.length∧s.1.length=l.length∧∀j:Int,0≤j∧j<s.2→gw s.1 j= -1) l.length (by omega) ⟨by simp,by simp,by simp,λj hj=>by dsimp only at hj;omega⟩ λs h1 ⟨h2,h3,h4⟩=>?_) λw ⟨hw1,hw2⟩=>?_))
 ·unfold vY
  rw[h3]
  refine Tot.cd (λh5=>Tot.b (Tot.gy (by omega) λ_ _ _=>Tot.i (by omega) (Tot.sn ⟨h5,by dsimp only;omega,by dsimp only;omega,by simp[h3],λj hj=>?_⟩))) λh5=>Tot.sb ⟨h3,λj hj=>h4 j (by omega)⟩
  dsimp only at hj ⊢
  rw[Bw (by omega) hj.1]
  split
  ·rfl
  exact h4 j (by omega)
 have hw:WI l t w:=⟨hw1,λj hj=>.inl (hw2 j hj),λj hj h=>by rw[hw2 j hj] at h;omega⟩
 have hb:=low_bound hl1 hw
 refine Tot.b (Tot.m (R:=λw=>WI l t w∧Fix l t w) (Tot.l (λs=>WI l t s.1∧(s.2=false→Fix l t s.1)) (λs=>2*lowM l.length s.1+if s.2 then 1 else 0) ⟨hw,by simp⟩ (by simp;omega) λs ⟨h1,h2⟩=>?_) λw hw=>Tot.s hw)
 unfold vZ
 refine Tot.c (λh3=>Tot.b ((steps_pass hn hl hin h1).m λy ⟨y1,y2⟩=>Tot.sn ?_)) λh3=>Tot.sb ⟨h1,h2 h3⟩
 rcases y2 with⟨a,b⟩|⟨a,b,c⟩
 ·exact⟨⟨y1,λh=>by dsimp only at h;rw[a] at h;cases h⟩,by dsimp only;rw[a,h3];simp;omega⟩
 exact⟨⟨y1,λ_=>by dsimp only;rw[b];exact c⟩,by dsimp only;rw[a,b,h3];simp⟩
def rowG (l:List CD) (j:Int):CD:=(aq l j).getD []
theorem Fix.pt {l:List CD} {t:Int} {w:CD} (hin:InOK l) (h:Fix l t w): ∀ (m:Nat) (a:Int),Pt (rowG l) (m+1) a t→1≤gw w a
 |0,a,⟨c,h1,h2⟩=>by
  have h2:c=t:=h2
  unfold rowG at h1
  cases e:aq l a with
  |none=>rw[e] at h1;cases h1
  |some r=>rw[e] at h1;have:=(h a r e c h1).1 h2;omega
 |m+1,a,⟨c,h1,h2⟩=>by
  have h3:=h.pt hin m c h2
  unfold rowG at h1
  cases e:aq l a with
  |none=>rw[e] at h1;cases h1
  |some r=>
   rw[e] at h1
   have hf:=h a r e c h1
   by_cases hc:c=t
   ·have:=hf.1 hc;omega
   exact(hf.2 hc h3).1
theorem may20_true {l:List CD} (hn:10000000000001<n) (hl:RbOK l) (hin:InOK l):Tot (lM n l) λb=>b=true:=by
 have hl1:=hl.1
 unfold lM
 refine Tot.b (Tot.m (R:=λb=>match b with|.inl _=>False|.inr _=>True) (Tot.li (λs=>s) (λ_=>True) l.length (by omega) (by simp) λs g1 _=>?_) λb hb=>?_)
 ·unfold uc
  refine Tot.cd (λg2=>?_) λ_=>Tot.sb trivial
  obtain⟨r,hr,hrm⟩: ∃r,aq l s=some r∧r∈l:=Tot.gy (Q:=λx=>x∈l) ⟨g1,g2⟩ λ_ _ h=>h
  have hrl:=hl.2 r hrm
  refine Tot.b (Tot.m (R:=λb=>match b with|.inl _=>False|.inr _=>True) (Tot.li (λs=>s) (λ_=>True) r.length (by omega) (by simp) λq f1 _=>?_) λb hb=>?_)
  ·unfold ud
   refine Tot.b (Tot.ge hr (Tot.cd (λf2=>Tot.b (Tot.ge hr (Tot.b (Tot.gy ⟨f1,f2⟩ λi hi him=>?_)))) λ_=>Tot.sb trivial))
   have:=hin r hrm i him
   exact Tot.cd (λh=>by omega) λ_=>Tot.b (Tot.ge hr (Tot.b (Tot.ge hi (Tot.cd (λh=>by omega) λ_=>Tot.i (by omega) (Tot.sn ⟨f2,by omega,trivial⟩)))))
  cases b with
  |inl _=>exact hb.elim
  |inr _=>exact Tot.i (by omega) (Tot.sn ⟨g2,by omega,trivial⟩)
 cases b with
 |inl _=>exact hb.elim
 |inr _=>exact Tot.s rfl
theorem circle20 {l:List CD} (hN:10000000000000000000<n) (hl:RbOK l) (hin:InOK l):Tot (oI n l) λr=>r.length=0→∀t:Int,0≤t∧t<l.length→∀m,¬Pt (rowG l) (m+1) t t:=by
 have hn:10000000000001<n:=by omega
 have hl1:=hl.1
 unfold oI
 refine Tot.b ((may20_true hn hl hin).m λb hb=>?_)
 subst hb
 refine Tot.cn (Tot.ct (Tot.b (Tot.m (R:=λb=>match b with|.inl r=>0<r.length|.inr _=>∀t:Int,0≤t∧t<l.length→∀m,¬Pt (rowG l) (m+1) t t) (Tot.li (λs=>s) (λs=>s≤l.length∧∀t:Int,0≤t∧t<s→∀m,¬Pt (rowG l) (m+1) t t) l.length (by omega) ⟨by simp,by simp,λt ht=>by omega⟩ λs h1 ⟨h2,h3⟩=>?_) λb hb=>?_)))
 ·unfold uH
  refine Tot.cd (λh4=>Tot.b ((steps20 hN hl hin).m λw ⟨hw,hf⟩=>?_)) λh4=>Tot.sb λt ht=>h3 t (by omega)
  have hlen:=hw.len
  have hc:=AF w
  have hg:=nj (xs:=w) (i:=s) (by omega)
  have hall:=hw.all s ⟨h1,h4⟩
  refine Tot.b (Tot.ge hg (Tot.cd (λh5=>Tot.i (by omega) (Tot.sn ⟨h4,by omega,by omega,λt ht m hp=>?_⟩)) λh5=>Tot.b (Tot.ge hg ?_)))
  ·by_cases e:t=s
   ·subst e
    have:=hf.pt hin m t hp
    omega
   exact h3 t (by omega) m hp
  refine Tot.b (Tot.m (R:=λr=>0<r.length) (Tot.l (λu=>(0≤u.2.1∧u.2.1<l.length)∧0<u.1.length∧u.1.length+u.2.2≤20000001∧u.2.2=gw w u.2.1∧1≤u.2.2) (λu=>u.2.2.toNat) ⟨⟨h1,h4⟩,by simp,by simp;omega,rfl,by dsimp only;omega⟩ (by dsimp only;omega) λu ⟨u1,u2,u3,u4,u5⟩=>?_) λr hr=>Tot.sb hr)
  unfold uI
  refine Tot.cd (λu6=>?_) λ_=>Tot.sb u2
  obtain⟨r,hr,hrm⟩: ∃r,aq l u.2.1=some r∧r∈l:=Tot.gy (Q:=λx=>x∈l) u1 λ_ _ h=>h
  have hrl:=hl.2 r hrm
  refine Tot.b (Tot.m (R:=λy=>(0≤y∧y<l.length)∧gw w y=u.2.2-1) (Tot.lm r (λv=>v.2) (λi=>True) (λv:Int×Int=>v.2≤r.length∧((v.1<0∧∀i∈r.take v.2.toNat,i≠s→gw w i≠u.2.2-1)∨((0≤v.1∧v.1<l.length)∧gw w v.1=u.2.2-1))) (by omega) rfl ⟨by simp,.inl ⟨by decide,by simp⟩⟩ λv v1 ⟨v2,v3⟩ _=>?_) λy ⟨y1,y2⟩=>Tot.n (by omega) (Tot.i (by omega) (Tot.sn ⟨⟨y1,by simp,by simp;omega,by dsimp only;omega,by dsimp only;omega⟩,by dsimp only;omega⟩)))
  unfold uJ
  refine Tot.b (Tot.ge hr (Tot.cd (λv4=>Tot.b (Tot.ge hr (Tot.b (Tot.gy ⟨v1,v4⟩ λi hi him=>?_)))) λv4=>Tot.sb ?_))
  ·have hir:=hin r hrm i him
   have e: (v.2+1).toNat=v.2.toNat+1:=by omega
   have keep: (v.1<0→i≠s→gw w i≠u.2.2-1)→Tot (ar (inR .i64 (v.2+1)) (some (Lp.nx (v.1,v.2+1)):Option (Lp (Int×Int) Int))) (LpP (λs'=>v.2<r.length∧s'.2=v.2+1∧(∀y∈r.take (v.2+1).toNat,True)∧s'.2≤r.length∧((s'.1<0∧∀i∈r.take s'.2.toNat,i≠s→gw w i≠u.2.2-1)∨((0≤s'.1∧s'.1<l.length)∧gw w s'.1=u.2.2-1))) λy=>(0≤y∧y<l.length)∧gw w y=u.2.2-1):=λhk=>by
    refine Tot.i (by omega) (Tot.sn ⟨v4,rfl,λ_ _=>trivial,by dsimp only;omega,?_⟩)
    rcases v3 with⟨a,b⟩|a
    ·refine .inl ⟨a,λx hx=>?_⟩
     dsimp only at hx
     rw[e,tk1 hi] at hx
     rcases List.mem_append.1 hx with hx|hx
     ·exact b x hx
     rw[List.mem_singleton.1 hx];exact hk a
    exact .inr a
   have take:gw w i=u.2.2-1→Tot (ar (inR .i64 (v.2+1)) (some (Lp.nx (i,v.2+1)):Option (Lp (Int×Int) Int))) (LpP (λs'=>v.2<r.length∧s'.2=v.2+1∧(∀y∈r.take (v.2+1).toNat,True)∧s'.2≤r.length∧((s'.1<0∧∀i∈r.take s'.2.toNat,i≠s→gw w i≠u.2.2-1)∨((0≤s'.1∧s'.1<l.length)∧gw w s'.1=u.2.2-1))) λy=>(0≤y∧y<l.length)∧gw w y=u.2.2-1):=λhk=>
    Tot.i (by omega) (Tot.sn ⟨v4,rfl,λ_ _=>trivial,by dsimp only;omega,.inr ⟨hir,hk⟩⟩)
   refine Tot.cn (Tot.cd (λe1=>keep λ_ h=>(h e1).elim) λe1=>Tot.b (Tot.ge (nj (by omega)) (Tot.i (by omega) (Tot.cd (λe2=>Tot.cd (λ_=>take e2) λe3=>Tot.cd (λ_=>take e2) λ_=>keep λh=>(e3 h).elim) λe2=>keep λ_ _=>e2))))
  rcases v3 with⟨a,b⟩|a
  ·rcases hw.c u.2.1 u1 (by omega) r hr with c|⟨i,hi,c1,c2,c3⟩
   ·omega
   have:=(hf u.2.1 r hr i hi).2 c1 c2
   exact(cu v4 b i hi c1 (by omega)).elim
  exact a
 cases b with
 |inl r=>exact Tot.s λh=>by dsimp only at hb;omega
 |inr _=>exact Tot.s λ_=>hb
variable {n:Nat}
theorem fly_no {w:bH} {k:Nat} (hk:k<w.am.length) (h:flyV w=[]): (st0 w).getD k 0≠2:=by
 intro h2
 rw[st0_at hk] at h2
 split at h2
 ·unfold tSL at h2
  split at h2
  ·cases h2
  rename_i t hf
  split at h2
  ·rename_i h0
   have:t.cP.gX∈flyV w:=List.mem_map.2 ⟨t,List.mem_filter.2 ⟨List.mem_of_find?_eq_some hf,by simp[h0]⟩,rfl⟩
   rw[h] at this;cases this
  split at h2<;>cases h2
 cases h2
theorem wait_ready {w:bH} {R R':LL} (h:Wr n w R) (hRR: ∀j k:Nat,(k:Int)∈R.getD j []→(k:Int)∈rowG R' j) (hno: ∀t:Int,0≤t∧t<w.am.length→∀m,¬Pt (rowG R') (m+1) t t) (hfl:flyV w=[]): ∀ (q:Nat) (rest vs:List Nat) (k:Nat),rest.length≤q→(∀j,j<w.am.length→j∈vs∨j∈rest)→(∀v∈vs,∃m,Pt (rowG R') (m+1) (k:Int) (v:Int))→k<w.am.length→(stV w R).getD k 0=1→rdyV w R (stV w R)≠ []:=by
 intro q
 induction q with
 |zero=>
  intro rest vs k hq hr hv hk h1
  have:rest=[]:=List.eq_nil_of_length_eq_zero (by omega)
  subst this
  obtain⟨m,hp⟩:=hv k ((hr k hk).resolve_right (by simp))
  exact(hno k (by omega) m hp).elim
 |succ q ih=>
  intro rest vs k hq hr hv hk h1
  have hkr:k∈rest:=(hr k hk).elim (λhk'=>by
   obtain⟨m,hp⟩:=hv k hk'
   exact(hno k (by omega) m hp).elim) id
  have hlen:=List.length_erase_of_mem hkr
  have hpos:=List.length_pos_of_mem hkr
  have hl:=stV_len (w:=w) (R:=R)
  have hkR:k<R.length:=by rw[h.len];exact hk
  by_cases hp:pickF allQr letsB (turnedL R) (stV w R) k=true
  ·intro e
   have: (k:Int)∈rdyV w R (stV w R):=oM.2 ⟨k,rfl,by rw[hl];exact hk,hp⟩
   rw[e] at this;cases this
  have hp': ((turnedL R).getD k []).all (λx=>letsB ((stV w R).getD x.toNat 0))=false:=by
   unfold pickF allQr at hp
   rw[h1] at hp
   simpa using hp
  obtain⟨x,hx,hxl⟩:=List.all_eq_false.1 hp'
  obtain⟨j,rfl,hj,hkj⟩:=(aAe hkR).1 hx
  rw[Int.toNat_natCast] at hxl
  have hj':j<w.am.length:=by rw[←h.len];exact hj
  have hk0:=stV_wait hk h1
  have hjs:=lP (l:=turnedL R) (st:=st0 w) (i:=j) (by rw[jQ];exact hj')
  have hj4:=st0_rng j (by rw[jQ];exact hj')
  have nb: ¬Blk (turnedL R) (st0 w) j:=λhb=>by
   have hbk:Blk (turnedL R) (st0 w) k:=.step (x:=(j:Int)) (by rw[jQ];exact hk) hk0 hx (by rw[Int.toNat_natCast];exact hb)
   rcases lP (l:=turnedL R) (st:=st0 w) (i:=k) (by rw[jQ];exact hk) with⟨_,_,e⟩|⟨e,_⟩
   ·unfold stV at h1;rw[h1] at e;cases e
   exact e ⟨hk0,hbk⟩
  have hjv: (stV w R).getD j 0=(st0 w).getD j 0:=by
   rcases hjs with⟨_,hb,_⟩|⟨_,e⟩
   ·exact(nb hb).elim
   exact e
  have n4: (st0 w).getD j 0≠4:=λe=>nb (.base (by rw[jQ];exact hj') ((st0_blk hj').2 e))
  have n2:=fly_no hj' hfl
  have hj1: (stV w R).getD j 0=1:=by
   rw[hjv]
   rw[hjv] at hxl
   unfold letsB at hxl
   simp only[Bool.or_eq_true,decide_eq_true_eq,not_or] at hxl
   omega
  have hedge:=hRR j k hkj
  exact ih (rest.erase k) (k::vs) j (by omega) (λi hi=>by
   by_cases e:i=k
   ·exact .inl (by simp[e])
   ·exact(hr i hi).elim (λa=>.inl (List.mem_cons_of_mem _ a)) λa=>.inr ((List.mem_erase_of_ne e).2 a)) (λv hv'=>by
   rcases List.mem_cons.1 hv' with rfl|hv'
   ·exact⟨0,_,hedge,rfl⟩
   obtain⟨m,hm⟩:=hv v hv'
   exact⟨m+1,_,hedge,hm⟩) hj' hj1
variable {n:Nat}
theorem goO_eq {s:gH} {c:cV}: ((if c.aA=4 then true else decide (c.aA=3))=true∧(ownR s c.ci).2=true∧goO s c=some (ownR s c.ci).1)∨((bif(ownR s c.ci).2 then(if c.aA=4 then true else decide (c.aA=3)) else false)=false∧goO s c=none):=by
 unfold ownR goO
 cases ownV s c.ci with
 |none=>exact .inr ⟨rfl,by simp⟩
 |some o=>
  by_cases h4:c.aA=4
  ·exact .inl ⟨by simp[h4],rfl,by simp[h4]⟩
  by_cases h3:c.aA=3
  ·exact .inl ⟨by simp[h3],rfl,by simp[h3]⟩
  exact .inr ⟨by simp[h4,h3],by simp[h4,h3]⟩
open Go.Ck
def iq (n:Nat) (d1:gH) (X7:CD) (K1:Int×bH× (List (Int×Bool))) (X15:Int) (K2:Int) (X25:CD) (K3:Int):Option (Lp Int (Sum Unit Unit)):=bif decide (K3<(X25.length:Int)) then(aq X25 K3).bind λX27=>(bif !(decide (X27=X15)) then some (true) else some (decide ((0:Int)<(X7.length:Int))):Option Bool).bind λG5=>bif G5 then ar (inR .i64 (K3+1))<|some (.nx (K3+1)) else((aq K1.2.1.am K2).bind λX29=>(jq n d1 X29.ci).bind λX31=>some (X31.1,(X31.2)):Option (gK×Bool)).bind λG6=>((aq K1.2.1.am K2).bind λX33=>bif decide (X33.aA=4) then some (true) else(aq K1.2.1.am K2).bind λX35=>some (decide (X35.aA=3)):Option Bool).bind λG7=>(bif !G7 then some (true) else bif !G6.2 then some (true) else some (G6.1.bV):Option Bool).bind λG8=>bif G8 then ar (inR .i64 (K3+1))<|some (.nx (K3+1)) else(qn n K1.2.1 K2 (2:Int)).bind λX37=>bif !X37.2 then some (.br (.inl ())) else bif !(decide (X37.1.bW=1)) then some (.br (.inl ())) else ar (inR .i64 (K3+1))<|some (.nx (K3+1)) else some (.br (.inr ()))
def lg (n:Nat) (d1:gH) (X5:List CD) (X7:CD) (K1:Int×bH× (List (Int×Bool))) (X15:Int) (K2:Int):Option (Lp Int (Sum Unit Unit)):=bif decide (K2<(X5.length:Int)) then(aq X5 K2).bind λX25=>(av (iq n d1 X7 K1 X15 K2 X25) n (0:Int)).bind λQ10=>(match Q10 with|.inl G9=>some (.br (.inl ()))|.inr G10=>ar (inR .i64 (K2+1))<|some (.nx (K2+1))) else some (.br (.inr ()))
def lf (n:Nat) (d1:gH) (d4:Int) (d5:List TA0) (X5:List CD) (X7:CD) (K1:Int×bH× (List (Int×Bool))):Option (Lp (Int×bH× (List (Int×Bool))) (Sum (bH× (List (Int×Bool))) (bH× (List (Int×Bool))))):=bif decide (K1.1<(d5.length:Int)) then(aq d5 K1.1).bind λX9=>(eE n K1.2.1).bind λX11=>bif X9.Cj then(ee n K1.2.1).bind λX13=>bif decide ((X13.length:Int)=0) then ar (inR .i64 (K1.1+1))<|some (.nx (K1.1+1,K1.2.1,K1.2.2)) else ar ((X13.length:Int)≠0)<|ar (inR .i64 ((X9.fK.tmod (X13.length:Int))+ (X13.length:Int)))<|ar ((X13.length:Int)≠0)<|(aq X13 (((X9.fK.tmod (X13.length:Int))+ (X13.length:Int)).tmod (X13.length:Int))).bind λX15=>(ii n K1.2.1 X15).bind λX17=>(bif !(decide (X17.2.2=0)) then some (true) else bif decide (X15<0) then some (true) else bif decide ((K1.2.1.am.length:Int)≤X15) then some (true) else bif !(decide ((X17.1.am.length:Int)=(K1.2.1.am.length:Int))) then some (true) else bif(eS K1.2.2 X15).getD false then some (true) else some (decide (d4≤(X11.length:Int))):Option Bool).bind λG2=>bif G2 then some (.br (.inl (K1.2.1,K1.2.2))) else((aq K1.2.1.am X15).bind λX19=>(jq n d1 X19.ci).bind λX21=>some (X21.1,(X21.2)):Option (gK×Bool)).bind λG3=>(aq K1.2.1.am X15).bind λX23=>(bif !G3.2 then some (true) else bif G3.1.bV then some (true) else bif !(decide (X17.2.1.bm=G3.1.bm)) then some (true) else bif !(decide (X17.2.1.aA=2)) then some (true) else bif !(decide (X23.aA=4)) then some (!(decide (X23.aA=3))) else some (false):Option Bool).bind λG4=>bif G4 then some (.br (.inl (K1.2.1,K1.2.2))) else(av (lg n d1 X5 X7 K1 X15) n (0:Int)).bind λQ9=>(match Q9 with|.inl G11=>some (.br (.inl (K1.2.1,K1.2.2)))|.inr G12=>ar (inR .i64 (K1.1+1))<|some (.nx (K1.1+1,X17.1,jv K1.2.2 X15 (true)))) else bif decide ((X11.length:Int)=0) then ar (inR .i64 (K1.1+1))<|some (.nx (K1.1+1,K1.2.1,K1.2.2)) else(ar ((X11.length:Int)≠0)<|ar (inR .i64 ((X9.fK.tmod (X11.length:Int))+ (X11.length:Int)))<|ar ((X11.length:Int)≠0)<|(aq X11 (((X9.fK.tmod (X11.length:Int))+ (X11.length:Int)).tmod (X11.length:Int))).bind λX41=>(kf n K1.2.1 X41 (⟨(true),(X9.Bp),([]:Bs)⟩:TE0)).bind λX43=>some (X43.1,X43.2):Option (bH×Int)).bind λG13=>bif !(decide (G13.2=0)) then some (.br (.inl (K1.2.1,K1.2.2))) else bif !(decide ((G13.1.am.length:Int)=(K1.2.1.am.length:Int))) then some (.br (.inl (K1.2.1,K1.2.2))) else ar (inR .i64 (K1.1+1))<|some (.nx (K1.1+1,G13.1,K1.2.2)) else some (.br (.inr (K1.2.1,K1.2.2)))
def dH (n:Nat) (d0:Int) (d1:gH) (d2:cI) (d3:Cp) (d4:Int) (d5:List TA0):Option Bool:=(tc n d0 d1 d2 d3 d4).bind λX1=>(bif !X1.2 then some (true) else some (decide ((80:Int)<(d5.length:Int))):Option Bool).bind λG1=>bif G1 then(mC n).bind λX3=>some (X3) else(gp n X1.1 (true)).bind λX5=>(oI n X5).bind λX7=>(av (lf n d1 d4 d5 X5 X7) n ((0:Int),X1.1,([]:List (Int×Bool)))).bind λQ4=>(match Q4 with|.inl G14=>some (false)|.inr G15=>ar (inR .i64 ((X1.1.an.length:Int)+ (G15.2.length:Int)))<|bif decide ((G15.1.an.length:Int)=((X1.1.an.length:Int)+ (G15.2.length:Int))) then(mC n).bind λX45=>some (X45) else some (false))
set_option maxRecDepth 20000 in
theorem vo (n:Nat) (d0:Int) (d1:gH) (d2:cI) (d3:Cp) (d4:Int) (d5:List TA0) (z:Zs):oK (ez.facts d1 z++bq.facts d2 (sh 5 z)++[sX 8 aj (z 9) d3]++[sX 3 lV (z 10) d5]) [] 3 [.int .i8 d0,ez.ag d1 z,bq.ag d2 (sh 5 z),wX (z 9) d3,.int .i64 d4,wX (z 10) d5] (dH n d0 d1 d2 d3 d4 d5) (λr y=>⟨.bool r,[],[]⟩):=
 fn 303 Tryz.func3 (ob (λX1 X2=>jn (.reg 2) [bx 11,bx 12,K 11 0,K 12 0,C (law27_work_C n d0 d1 d2 d3 d4) X2 [0,1,2,3,4,5,6,7,8,9] [] 13,al 23,Sn 23] (λG1 _ _=>{L:=[(55,.bool G1)],ks:=[4,5,7,13]}) (bs [] 51 (rt []) (rt [])) (kA λ_=>br [] (ob (λ_ X4=>rt [C (wS n) X4 [] [] 24])) (ob (λX5 X6=>ob (λ_ X8=>lp [O 23,C (rV n X1.1 (true)) X6 [13,14,15,16,17,18,19,20,21,22] [] 24,ri 24 24 25,C (Cg n X5) X8 [25] [] 26,O 23,mmI .i64 27 Value.bool] {is:=[13,14,15,16,17,18,19,20,21,22]} (λK1 z _=>{L:=[(69,.int .i64 K1.1)],ks:=[4,7,13,15,16,17,18,67,68],o:=[(23,.cells (bn.cells K1.2.1 z).toArray 41 (0,0)),(27,kl (Value.int .i64) Value.bool K1.2.2)],F:=nums 28 (bn.facts K1.2.1 z)}) (λx z b=>match x with|.inl G14=>{e:=.ret,L:=[(12,.bool false)],o:=[(23,.cells (bn.cells G14.1 z).toArray 41 (0,0)),(27,kl (Value.int .i64) Value.bool G14.2)],F:=nums 91 (bn.facts G14.1 z)}|.inr G15=>{e:=.exit 0,ks:=[13,17,18],o:=[(23,.cells (bn.cells G15.1 z).toArray 41 (0,0)),(27,kl (Value.int .i64) Value.bool G15.2)],F:=nums 91 (bn.facts G15.1 z)}) (λK1=>br [] (ob (λX9 X10=>ob (λ_ X12=>br [I 10 38 Y_TA0 X10,K 38 0,al 39,Sn 39,O 23,C (lD n K1.2.1) X12 [28,29,30,31,32,33,34,35,36,37] [] 40,O 39] (ob (λ_ X14=>br [O 23,C (jO n K1.2.1) X14 [28,29,30,31,32,33,34,35,36,37] [] 41] (nd (λO1=>rt [wr 291 O1] {is:=[28,29,30,31,32,33,34,35,36,37]})) (nd (λO2=>nd (λO3=>nd (λO4=>ob (λX15 X16=>ob (λ_ X18=>jn (.reg 17) [O 39,rem O2,wr 90 O3,rem O4,Re 41 41 42 (tI .i64) X16,X 43,Rd 41 42 0,O 23,C (uw n K1.2.1 X15) X18 [28,29,30,31,32,33,34,35,36,37] [] 44,al 55,al 56,Sn 55,Sn 56] (λG2 _ _=>{L:=[(135,.bool G2)],ks:=[4,7,13,15,16,17,18,23,24,25,67,68,69]}) (bs [] 105 (rt []) (bs [] 109 (rt []) (bs [O 23] 116 (rt []) (bs [O 55,O 23] 125 (rt []) (bs [mlI .i64 27 Value.bool K1.2.2 X15 false] 130 (rt []) (rt [])))))) (kA λ_=>br [] (rt [] {is:=[28,29,30,31,32,33,34,35,36,37]}) (jn (.reg 19) [] (λG3 z _=>{L:=[(27,.pointer (some (z 0).ad)),(28,.bool G3.2)],ks:=[4,7,13,15,16,17,18,23,24,25,67,68,69],F:=[(64,.kn (z 0).ad (bN.cells G3.1 (sh 1 z)))]++nums 65 (bN.facts G3.1 (sh 1 z))}) (ob (λX19 X20=>ob (λ_ X22=>rt [Ie 36 57 dk X20,K 11 0,O 23,X 58,K 57 0,C (we n d1 X19.ci) X22 [0,1,2,3,4] [] 61,al 63,Sn 63,fz 63 64] {is:=[64,61,62]}))) (kA λ_=>ob (λ_ X24=>jn (.reg 21) [O 23,I 36 67 dk X24,K 67 1] (λG4 _ _=>{L:=[(178,.bool G4)],ks:=[4,7,13,15,16,17,18,23,24,67,68,69]}) (bs [] 155 (rt []) (bs [K 64 4] 159 (rt []) (bs [O 56,K 64 2] 166 (rt []) (bs [O 56] 171 (rt []) (bs [] 174 (rt []) (rt [])))))) (kA λ_=>br [] (rt [] {is:=[28,29,30,31,32,33,34,35,36,37]}) (lp [] {} (λK2 _ _=>{L:=[(181,.int .i64 K2)],ks:=[4,7,13,15,16,17,18,23,24,67,68,69,180]}) (λx z b=>match x with|.inl G11=>{e:=.ret,L:=[(12,.bool false)]}|.inr G12=>{e:=.exit 2,ks:=[4,7,13,15,16,17,18,23,24,67,68,69]}) (λK2=>br [] (ob (λ_ X26=>lp [I 25 70 (tL 1 (Dat.int .i64)) X26,K 70 0] {} (λK3 _ _=>{L:=[(189,.int .i64 K3)],ks:=[4,7,13,15,16,17,18,23,24,30,67,68,69,180,181,187,188]}) (λx z b=>match x with|.inl G9=>{e:=.ret,L:=[(12,.bool false)]}|.inr G10=>{e:=.exit 4,ks:=[4,7,13,15,16,17,18,23,24,67,68,69,180,181]}) (λK3=>br [] (ob (λ_ X28=>jn (.reg 29) [I 71 72 (tI .i64) X28,K 72 0] (λG5 _ _=>{L:=[(198,.bool G5)],ks:=[4,7,13,15,16,17,18,23,24,30,67,68,69,180,181,187,188,189]}) (bs [] 196 (rt []) (rt [])) (kA λ_=>br [] (nd (λO5=>rt [wr 249 O5])) (jn (.reg 30) [] (λG6 z _=>{L:=[(33,.pointer (some (z 0).ad)),(34,.bool G6.2)],ks:=[4,7,13,15,16,17,18,23,24,30,67,68,69,180,181,187,188,189],F:=[(80,.kn (z 0).ad (bN.cells G6.1 (sh 1 z)))]++nums 81 (bN.facts G6.1 (sh 1 z))}) (ob (λX29 X30=>ob (λ_ X32=>rt [Ie 36 73 dk X30,K 11 0,O 23,X 74,K 73 0,C (we n d1 X29.ci) X32 [0,1,2,3,4] [] 77,al 79,Sn 79,fz 79 80] {is:=[80,77,78]}))) (kA λ_=>jn (.reg 31) [] (λG7 _ _=>{L:=[(35,.bool G7)],ks:=[4,7,13,15,16,17,18,23,24,30,33,34,67,68,69,180,181,187,188,189]}) (ob (λ_ X34=>bs [O 23,I 36 83 dk X34,K 83 1] 217 (rt []) (ob (λ_ X36=>rt [O 23,I 36 86 dk X36,K 86 1])))) (kA λ_=>jn (.reg 32) [] (λG8 _ _=>{L:=[(235,.bool G8)],ks:=[4,7,13,15,16,17,18,23,24,30,67,68,69,180,181,187,188,189]}) (bs [] 228 (rt []) (bs [] 232 (rt []) (rt [K 80 4]))) (kA λ_=>br [] (nd (λO6=>rt [wr 249 O6])) (ob (λ_ X38=>bs [O 23,C (yE n K1.2.1 K2 (2:Int)) X38 [28,29,30,31,32,33,34,35,36,37] [] 89,al 90,Sn 90] 244 (rt [cd true]) (br [O 90] (rt []) (nd (λO7=>rt [wr 249 O7])))))))))))) (rt [])) (kS (kA λ_=>rt []) (kA λ_=>nd (λO8=>rt [wr 250 O8]))))) (rt [])) (kS (kA λ_=>rt [] {is:=[28,29,30,31,32,33,34,35,36,37]}) (kA λ_=>nd (λO9=>rt [miI .i64 27 Value.bool K1.2.2 X15 (true),O 55,Sn 23,wr 291 O9] {is:=[44,45,46,47,48,49,50,51,52,53]}))))))))))))))))) (br [] (nd (λO10=>rt [wr 291 O10] {is:=[28,29,30,31,32,33,34,35,36,37]})) (jn (.reg 41) [] (λG13 z _=>{L:=[(38,.pointer (some (z 0).ad)),(39,.int .i64 G13.2)],ks:=[4,7,13,15,16,17,18,67,68,69],F:=[(54,.kn (z 0).ad (bn.cells G13.1 (sh 1 z)))]++nums 55 (bn.facts G13.1 (sh 1 z))}) (nd (λO11=>nd (λO12=>nd (λO13=>ob (λX41 X42=>ob (λ_ X44=>rt [Re 40 40 41 (tI .i64) X42,ch [] [(267,⟨congrArg (Value.int .i64) (cD O12)⟩)],O 23,O 39,rem O11,rem O13,X 42,Rd 40 41 0,O 39,C (wQ n K1.2.1 X41 (⟨(true),(X9.Bp),([]:Bs)⟩:TE0)) X44 [28,29,30,31,32,33,34,35,36,37] [] 43,al 53,Sn 53,fz 53 54] {is:=[54,43,44,45,46,47,48,49,50,51,52]})))))) (kA λ_=>bs [] 281 (rt [cd true] {is:=[28,29,30,31,32,33,34,35,36,37]}) (br [K 54 14,O 23] (rt [] {is:=[28,29,30,31,32,33,34,35,36,37]}) (nd (λO14=>rt [K 54 0,Sn 23,wr 291 O14] {is:=[55,56,57,58,59,60,61,62,63,64]}))))))))) (rt [] {is:=[28,29,30,31,32,33,34,35,36,37]})) (kS (kA λ_=>rt []) (kA λG15=>nd (λO15=>bs [O 23,Ck.mL .i64 27 Value.bool G15.2,wr 298 O15] 300 (ob (λ_ X46=>rt [C (wS n) X46 [] [] 101])) (rt []))))))))))
variable {n:Nat}
theorem pick_at {k:Int} {l:Nat} (h:0<l): -(l:Int)<k.tmod l∧k.tmod l<l∧0≤(k.tmod l+l).tmod l∧(k.tmod l+l).tmod l<l:=by
 have h1:k.tmod l<l:=Int.tmod_lt_of_pos k (by omega)
 have h2: -(l:Int)<k.tmod l:=Int.lt_tmod_of_pos k (by omega)
 have h3:0≤k.tmod l+l:=by omega
 refine⟨h2,h1,?_,Int.tmod_lt_of_pos _ (by omega)⟩
 rw[Int.tmod_eq_emod_of_nonneg h3]
 exact Int.emod_nonneg _ (by omega)
theorem rows_same {l:Cv} {R R':LL} (h:LeansOf l R) (h':LeansOf l R') {j k:Nat} (hk: (k:Int)∈R.getD j []): (k:Int)∈rowG R' j:=by
 by_cases hj:j<l.length
 ·have h1:=(h.row j hj k).1 hk
  have h2:=(h'.row j hj k).2 h1
  have hj':j<R'.length:=by rw[h'.len];exact hj
  unfold rowG
  rw[bw hj']
  rw[List.getD_eq_getElem?_getD,List.getElem?_eq_getElem hj'] at h2
  exact h2
 rw[List.getD_eq_getElem?_getD,List.getElem?_eq_none (by rw[h.len];omega)] at hk
 cases hk
theorem lets_done {w:bH} {R:LL} {j:Nat} {o:gK} (h:Wr n w R) (hj:j<w.am.length) (hg:goO w.bI w.am[j]=some o) (hr:o.bV=false) (hl:letsB ((stV w R).getD j 0)=true): ∃t∈w.an,isT j 2 t=true∧t.bW=1:=by
 have hgo: (j:Int)∈goesV w:=Bv.2 ⟨j,hj,rfl,o,hg,hr⟩
 have h0:=st0_at (w:=w) hj
 rw[if_pos hgo] at h0
 have hs: (stV w R).getD j 0=(st0 w).getD j 0:=by
  rcases lP (l:=turnedL R) (st:=st0 w) (i:=j) (by rw[jQ];exact hj) with⟨_,_,e⟩|⟨_,e⟩
  ·have e: (stV w R).getD j 0=5:=e
   rw[e] at hl;cases hl
  exact e
 rw[hs,h0] at hl
 unfold tSL at hl
 cases hf:w.an.find? (isT j 2) with
 |none=>rw[hf] at hl;cases hl
 |some t=>
  rw[hf] at hl
  dsimp only at hl
  refine⟨t,List.mem_of_find?_eq_some hf,List.find?_some hf,?_⟩
  split at hl
  ·cases hl
  split at hl
  ·assumption
  cases hl
theorem lets_of_ready {w:bH} {R R':LL} {k j:Nat} (h:Wr n w R) (h':LeansOf (ownW w).am R') (hx: (k:Int)∈rdyV w R (stV w R)∨(rdyV w R (stV w R)=[]∧flyV w=[]∧∃q:Nat,(k:Int)=q∧q<w.am.length∧(stV w R).getD q 0=1)) (hno: ∀t:Int,0≤t∧t<w.am.length→∀m,¬Pt (rowG R') (m+1) t t) (hj:j<w.am.length) (hk:k<w.am.length) (hkj: (k:Int)∈R.getD j []):letsB ((stV w R).getD j 0)=true:=by
 rcases hx with hx|⟨h1,h2,q,hq,hq1,hq2⟩
 ·obtain⟨q,e,hq,hp⟩:=oM.1 hx
  have:q=k:=by omega
  subst this
  unfold pickF allQr at hp
  simp only[Bool.and_eq_true,List.all_eq_true] at hp
  have:=hp.2 (j:Int) ((aAe (by rw[h.len];exact hk)).2 ⟨j,rfl,by rw[h.len];exact hj,hkj⟩)
  rwa [Int.toNat_natCast] at this
 exact(wait_ready h (λa b=>rows_same h.L h') hno h2 w.am.length (List.range w.am.length) [] q (by simp) (λi hi=>.inr (List.mem_range.2 hi)) (by simp) hq1 hq2 h1).elim
theorem right_row {s:gH} {w:bH} {R R':LL} {k j:Nat} {x7 r:CD} {u:Int×bH×List (Int×Bool)} (hn:10000000000001<n) (h:Wr n w R) (h':LeansOf (ownW w).am R') (he:u.2.1=w) (hod:w.bI=s) (hx: (k:Int)∈rdyV w R (stV w R)∨(rdyV w R (stV w R)=[]∧flyV w=[]∧∃q:Nat,(k:Int)=q∧q<w.am.length∧(stV w R).getD q 0=1)) (hno:x7.length=0→∀t:Int,0≤t∧t<w.am.length→∀m,¬Pt (rowG R') (m+1) t t) (hj:j<w.am.length) (hk:k<w.am.length) (hr:aq R' j=some r):Tot (av (iq n s x7 u k j r) n (0:Int)) λb=>match b with|.inl _=>False|.inr _=>True:=by
 have hrl:r.length≤3000000:=by
  have hm:=List.mem_of_getElem? (cH hr).2.2
  have:=(xX h' (by simpa [ownW] using h.sm.ch)).row r hm
  omega
 have hrr:R'.getD j []=r:=by
  have:=(cH hr).2.2
  rw[List.getD_eq_getElem?_getD];rw[Int.toNat_natCast] at this;rw[this];rfl
 refine Tot.li (λs=>s) (λ_=>True) r.length (by omega) (by simp) λq h1 _=>?_
 unfold iq
 rw[he]
 refine Tot.cd (λh2=>Tot.b (Tot.gy ⟨h1,h2⟩ λx hx1 hxm=>Tot.b (Tot.m (R:=λb=>b=false→x=k∧x7.length=0) (Tot.cn (Tot.cd (λe=>Tot.s λh=>⟨e,by have:=of_decide_eq_false h;omega⟩) λ_=>Tot.s (by simp))) λb hb=>Tot.c (λ_=>Tot.i (by omega) (Tot.sn ⟨h2,by omega,trivial⟩)) λhb1=>?_))) λ_=>Tot.sb trivial
 obtain⟨rfl,h7⟩:=hb hb1
 have hkj: (k:Int)∈R.getD j []:=by
  have hj2:j<(ownW w).am.length:=by simpa [ownW] using hj
  exact(h.L.row j hj2 k).2 ((h'.row j hj2 k).1 (by rw[hrr];exact hxm))
 have how:s.aR.length≤100:=by rw[←hod];exact h.sm.ow
 have hlets:=lets_of_ready h h' hx (hno h7) hj hk hkj
 refine Tot.b (Tot.m (R:=λy=>y=ownR s w.am[j].ci) (Tot.b (Tot.ge (bw hj) (Tot.b (Tot.ge (own_rf hn how) (Tot.s rfl))))) λy hy=>?_)
 subst hy
 refine Tot.b (Tot.m (R:=λb=>b=(if w.am[j].aA=4 then true else decide (w.am[j].aA=3))) (Tot.b (Tot.ge (bw hj) (Tot.cd (λh4=>Tot.s (by rw[if_pos h4])) λh4=>Tot.b (Tot.ge (bw hj) (Tot.s (by rw[if_neg h4])))))) λy7 hy7=>?_)
 refine Tot.b (Tot.m (R:=λb=>b=false→y7=true∧(ownR s w.am[j].ci).2=true∧(ownR s w.am[j].ci).1.bV=false) (Tot.cn (Tot.c (λa=>Tot.cn (Tot.c (λb=>Tot.s λc=>⟨a,b,c⟩) λ_=>Tot.s (by simp))) λ_=>Tot.s (by simp))) λy8 hy8=>Tot.c (λ_=>Tot.i (by omega) (Tot.sn ⟨h2,by omega,trivial⟩)) λh8=>?_)
 obtain⟨a1,a2,a3⟩:=hy8 h8
 have hgo:goO w.bI w.am[j]=some (ownR s w.am[j].ci).1:=by
  rw[hod]
  rcases goO_eq (s:=s) (c:=w.am[j]) with⟨_,_,e⟩|⟨e,_⟩
  ·exact e
  rw[a2,←hy7,a1] at e;cases e
 obtain⟨t,ht,ht1,ht2⟩:=lets_done h hj hgo a3 hlets
 refine Tot.b ((task_ref hn w h.sm.tk j 2).m λz ⟨z1,z2⟩=>?_)
 have hz:z.2=true:=by rw[z1];exact List.any_eq_true.2 ⟨t,ht,ht1⟩
 have hz2:=z2 hz
 have e1:=wo.1 ht1
 have e2:=wo.1 hz2.2
 have:z.1=t:=same_task h.ok hz2.1 ht (by rw[e1.1,e2.1]) (by rw[e1.2,e2.2])
 rw[hz,this,dT ht2]
 exact Tot.cn (Tot.ct (Tot.cn (Tot.ct (Tot.i (by omega) (Tot.sn ⟨h2,by omega,trivial⟩)))))
theorem mput_new {m:List (Int×Bool)} {k:Int} (h: (eS m k).getD false=false) (hv: ∀i v,eS m i=some v→v=true): (jv m k true).length=m.length+1:=by
 have hn:eS m k=none:=by
  cases e:eS m k with
  |none=>rfl
  |some v=>rw[e,hv k v e] at h;cases h
 clear h hv
 induction m with
 |nil=>rfl
 |cons p r ih=>
  unfold eS at hn
  unfold jv
  split at hn
  ·cases hn
  rename_i h
  rw[if_neg h]
  simp[ih hn]
theorem right_law {k wd:Int} {s:gH} {t:cI} {gs:Cp} {ps:List TA0} (hN:10000000000000000000<n) (hs:dsz (gd s)≤2000000) (ht:dsz (ba t)≤2000000) (hg:zl gs≤2000000) (hwk:mC n=some true):dH n k s t gs wd ps=some true:=by
 have hn:10000000000001<n:=by omega
 suffices h:Tot (dH n k s t gs wd ps) λr=>r=true by
  obtain⟨r,h1,h2⟩:=h
  rw[h1,h2]
 unfold dH
 refine Tot.b ((work27w hN hs ht hg).m λx hx=>Tot.b (Tot.m (R:=λb=>b=false→x.2=true∧ps.length≤80) (Tot.cn (Tot.c (λh=>Tot.s λh2=>⟨h,by have:=of_decide_eq_false h2;omega⟩) λ_=>Tot.s (by simp))) λb hb=>Tot.c (λ_=>Tot.b (Tot.ge hwk (Tot.s rfl))) λh=>?_))
 obtain⟨hx2,hp80⟩:=hb h
 obtain⟨hf,hwd⟩:=hx hx2
 have hsm:=hf.sm.sml (Nat.le_refl _)
 have hc:=hsm.ch
 have how:=ownW_sml hsm λo ho=>(hf.sm.od.2 o ho).2.1
 obtain⟨R',hR',hL'⟩:=yV hn (ownW x.1) how.ch how.ln
 have hRs:=xX hL' how.ch
 have hRl:R'.length=x.1.am.length:=by rw[hL'.len];simp[ownW]
 have hRb:RbOK R':=⟨by omega,λr hr=>by have:=hRs.row r hr;omega⟩
 have hRin:InOK R':=leans_in hL'
 refine Tot.b (Tot.ge (by rw[leansR_true hn hsm];exact hR') (Tot.b ((circle20 hN hRb hRin).m λx7 h7=>?_)))
 have hE0:Ev s k x.1.am.length x.1:=⟨hf.ok,hsm,hf.sm.od.2,hf.od,hf.kd,rfl,λt ht=>⟨λ_=>hf.ts t ht,λe=>by rw[(hf.sm.tp t ht).2] at e;cases e⟩,by have:=hf.sm.tl;omega⟩
 have hT0:=hf.sm.tl
 refine Tot.b (Tot.m (R:=λb=>match b with|.inl _=>False|.inr y=>y.1.an.length=x.1.an.length+y.2.length∧y.2.length≤100) (Tot.li (λu=>u.1) (λu=>u.1≤ps.length∧Ev s k x.1.am.length u.2.1∧u.2.1.aJ=2∧u.2.1.co=wd∧u.2.1.am=x.1.am∧u.2.1.an.length=x.1.an.length+u.2.2.length∧u.2.2.length≤u.1∧(∀i v,eS u.2.2 i=some v→v=true)∧∀i,(eS u.2.2 i).isSome=true→∃t∈u.2.1.an,isT i 2 t=true) ps.length (by omega) ⟨by simp,by simp,hE0,hf.ph,hwd,rfl,by simp,by simp,λi v h=>by simp[eS] at h,λi h=>by simp[eS] at h⟩ λu h1 ⟨h2,hE,hp,hw,hch,hl,hl2,hv,hsn⟩=>?_) λb hb=>?_)
 ·obtain⟨R,hW⟩:=Wr.mk' hn hE.sm hE.ok hE.le
  have hlc:=hE.lc
  have hft: (flyV u.2.1).length≤u.2.1.an.length:=by unfold flyV;rw[List.length_map];exact List.length_filter_le _ _
  unfold lf
  refine Tot.cd (λh3=>Tot.b (Tot.gy ⟨h1,h3⟩ λp _ hpm=>Tot.b (Tot.ge (fly_pg hn hE.sm.tk) (Tot.c (λ_=>?_) λ_=>?_)))) λ_=>Tot.sb ⟨hl,by dsimp only;omega⟩
  ·obtain⟨rd,hrd,hrd1,hrd2,hrd3⟩:=ready_pg hn hW
   refine Tot.b (Tot.ge hrd (Tot.cd (λ_=>Tot.i (by omega) (Tot.sn ⟨h3,by dsimp only;omega,by dsimp only;omega,hE,hp,hw,hch,hl,by dsimp only;omega,hv,hsn⟩)) λhr0=>?_))
   have hq:=pick_at (k:=p.fK) (l:=rd.length) (by omega)
   have hrc:=hE.sm.ch
   refine Tot.n (by omega) (Tot.i (by omega) (Tot.n (by omega) (Tot.b (Tot.gy hq.2.2 λi _ him=>?_))))
   obtain⟨q,hqc,rfl,hgo,hfi⟩:=ready_wait (hrd3 i him)
   have hst:=start_pg hn hW hp hrd (by omega) him hqc
   have hwf: ((flyV u.2.1).length:Int)<wd:=by
    rcases hrd1 with e|⟨_,e⟩
    ·rw[e] at hr0;exact(hr0 rfl).elim
    rw[←hw];exact e
   have hse: (eS u.2.2 (q:Int)).getD false=false:=by
    cases e:eS u.2.2 (q:Int) with
    |none=>rfl
    |some v=>
     obtain⟨t,ht1,ht2⟩:=hsn q (by rw[e];rfl)
     exact(List.find?_eq_none.1 hfi t ht1 ht2).elim
   obtain⟨o,ho,hor⟩: ∃o,goO u.2.1.bI u.2.1.am[q]=some o∧o.bV=false:=by
    obtain⟨j,hj,e,o,h⟩:=Bv.1 hgo
    have:q=j:=by omega
    subst this
    exact⟨o,h⟩
   obtain⟨e1,e2,e3,e4⟩:=hE.start (p:=(ownR u.2.1.bI u.2.1.am[q].ci).1.bm) hqc hgo hfi
   have hod:=hE.od
   have hwl:s.aR.length≤100:=by rw[←hod];exact hE.sm.ow
   rw[hod] at ho
   have hgq: (ownR s u.2.1.am[q].ci).2=true∧(ownR s u.2.1.am[q].ci).1=o∧(u.2.1.am[q].aA=4∨u.2.1.am[q].aA=3):=by
    unfold goO at ho
    split at ho
    ·rename_i hkk
     unfold ownR;rw[ho];exact⟨rfl,rfl,hkk⟩
    cases ho
   refine Tot.b (Tot.ge hst (Tot.b (Tot.m (R:=λb=>b=false) ?_ λy2 hy2=>?_)))
   ·refine Tot.cn (Tot.ct (Tot.cd (λh=>by omega) λ_=>Tot.cd (λh=>by omega) λ_=>?_))
    rw[dT rfl,hse]
    exact Tot.cn (Tot.ct (Tot.cf (Tot.s (dF (by omega)))))
   subst hy2
   refine Tot.cf (Tot.b (Tot.m (R:=λr=>r=ownR s u.2.1.am[q].ci) (Tot.b (Tot.ge (bw hqc) (Tot.b (Tot.ge (own_rf hn hwl) (Tot.s rfl))))) λy3 hy3=>?_))
   subst hy3
   refine Tot.b (Tot.ge (bw hqc) (Tot.b (Tot.m (R:=λb=>b=false) ?_ λy4 hy4=>?_)))
   ·rw[hgq.1,hgq.2.1,hor,hod,hgq.2.1]
    refine Tot.cn (Tot.ct (Tot.cf ?_))
    rw[dT rfl]
    refine Tot.cn (Tot.ct (Tot.cn (Tot.ct (Tot.cn (Tot.cd (λ_=>Tot.s rfl) λh4=>Tot.s ?_)))))
    rw[dT (hgq.2.2.resolve_left h4)];rfl
   subst hy4
   refine Tot.cf (Tot.b (Tot.m (R:=λb=>match b with|.inl _=>False|.inr _=>True) (Tot.li (λv=>v) (λ_=>True) R'.length (by omega) (by simp) λv v1 _=>?_) λb hb=>?_))
   ·unfold lg
    obtain⟨j,rfl⟩:=Int.eq_ofNat_of_zero_le v1
    refine Tot.cd (λv2=>Tot.b (Tot.gy ⟨v1,v2⟩ λr hr _=>?_)) λ_=>Tot.sb trivial
    have hLw:LeansOf (ownW u.2.1).am R':=by
     have: (ownW u.2.1).am=(ownW x.1).am:=by unfold ownW;dsimp only;rw[hch,hod,hf.od]
     rw[this];exact hL'
    refine Tot.b ((right_row (s:=s) (u:=u) hn hW hLw rfl hod (hrd3 q him) (λhx7 t ht=>h7 hx7 t (by omega)) (by omega) hqc hr).m λb hb=>?_)
    cases b with
    |inl _=>exact hb.elim
    |inr _=>exact Tot.i (by omega) (Tot.sn ⟨v2,by omega,trivial⟩)
   cases b with
   |inl _=>exact hb.elim
   |inr _=>
    have hml:=mput_new hse hv
    refine Tot.i (by omega) (Tot.sn ⟨h3,by dsimp only;omega,by dsimp only;omega,e1,hp,hw,hch,?_,?_,λi v h=>?_,λi h=>?_⟩)
    ·dsimp only;rw[hml,List.length_append,List.length_singleton];omega
    ·dsimp only;rw[hml];omega
    ·dsimp only at h
     rw[ws] at h
     split at h
     ·injection h with h;exact h.symm
     exact hv i v h
    dsimp only at h ⊢
    rw[ws] at h
    split at h
    ·rename_i e
     exact⟨_,List.mem_append_right _ (List.mem_singleton.2 rfl),wo.2 ⟨e,rfl⟩⟩
    obtain⟨t,ht1,ht2⟩:=hsn i h
    exact⟨t,List.mem_append_left _ ht1,ht2⟩
  refine Tot.cd (λ_=>Tot.i (by omega) (Tot.sn ⟨h3,by dsimp only;omega,by dsimp only;omega,hE,hp,hw,hch,hl,by dsimp only;omega,hv,hsn⟩)) λhf0=>?_
  have htk:=hE.sm.tk
  have hq:=pick_at (k:=p.fK) (l:=(flyV u.2.1).length) (by omega)
  refine Tot.b (Tot.m (R:=λy=>∃q,∃hq:q<u.2.1.an.length,u.2.1.an[q].bW=0∧y=(setT u.2.1 (u.2.1.an.set q (endTL u.2.1.an[q] p.Bp)),0)) (Tot.n (by omega) (Tot.i (by omega) (Tot.n (by omega) (Tot.b (Tot.gy hq.2.2 λi _ him=>?_))))) λy ⟨q,hqt,hq0,hy⟩=>?_)
  ·unfold flyV at him
   obtain⟨t,ht,rfl⟩:=List.mem_map.1 him
   obtain⟨g1,g2⟩:=List.mem_filter.1 ht
   obtain⟨q,hqt,rfl⟩:=List.getElem_of_mem g1
   have h0:=of_decide_eq_true g2
   rw[(hE.ok.tk q hqt).1]
   exact Tot.b (Tot.ge (end_pg hn hE.sm hE.ok hqt h0) (Tot.s ⟨q,hqt,h0,rfl⟩))
  subst hy
  obtain⟨e1,e2,e3,e4⟩:=hE.end_ (y:=p.Bp) hqt hq0
  refine Tot.cn (Tot.ct (Tot.cn (Tot.cd (λ_=>Tot.i (by omega) (Tot.sn ⟨h3,by dsimp only;omega,by dsimp only;omega,e1,hp,hw,hch,by dsimp only;rw[List.length_set];exact hl,by dsimp only;omega,hv,λi h=>?_⟩)) λh=>(h rfl).elim)))
  obtain⟨t,ht1,ht2⟩:=hsn i h
  obtain⟨j,hj,rfl⟩:=List.getElem_of_mem ht1
  have hj':j<(u.2.1.an.set q (endTL u.2.1.an[q] p.Bp)).length:=by rw[List.length_set];exact hj
  refine⟨_,List.getElem_mem hj',?_⟩
  rw[List.getElem_set]
  split
  ·rename_i e;subst e;exact wo.2 (wo.1 ht2)
  exact ht2
 cases b with
 |inl _=>exact hb.elim
 |inr y=>
  obtain⟨b1,b2⟩:=hb
  exact Tot.i (by omega) (Tot.cd (λ_=>Tot.b (Tot.ge hwk (Tot.s rfl))) λh=>(h (by omega)).elim)
end Go.Proofs.YtkmbfmdhoeibhaaGreat
end
section
namespace Go.Proofs.YtkmbfmdhoeibhaaGreat
open Go Go.Vc Go.RowKit Go.Ck
def zRow (z1 z2:Zs) (zs:Zs):Zs:=λi=>if i<5 then z1 i else if i<9 then z2 (i-5) else zs (i-9)
theorem zRow_1 {z1 z2 zs:Zs} (d:gH):ez.cells d (zRow z1 z2 zs)=ez.cells d z1∧ez.facts d (zRow z1 z2 zs)=ez.facts d z1:=
 ez.loc λi hi=>by
  have hi:i<5:=hi
  simp[zRow,hi]
theorem zRow_2 {z1 z2 zs:Zs} (d:cI):bq.cells d (sh 5 (zRow z1 z2 zs))=bq.cells d z2∧bq.facts d (sh 5 (zRow z1 z2 zs))=bq.facts d z2:=
 bq.loc λi hi=>by
  have hi:i<4:=hi
  show zRow z1 z2 zs (i+5)=z2 i
  unfold zRow
  rw[if_neg (by omega),if_pos (by omega),Nat.add_sub_cancel]
end Go.Proofs.YtkmbfmdhoeibhaaGreat
end
section
namespace Go.Proofs.YtkmbfmdhoeibhaaGreat
open Go Go.Vc Go.RowKit
theorem wakes27:mC 100000000000000000000=some true:=by decide+kernel
theorem zl_of {l:Cp} (h:dsz (eL 8 aj l)≤1048576):zl l≤2000000:=by
 simp only[eL,dsz,zl,Sz.f] at*
 omega
end Go.Proofs.YtkmbfmdhoeibhaaGreat
end
section
namespace Go.Proofs.YtkmbfmdhoeibhaaGreat
open Go Go.Vc Go.RowKit Go.Ck
variable (n:Nat)
theorem uO (M:Mem) (d0:Int) (c1:Lv) (d1:gH) (h1:Rep M (gd d1) c1) (c2:Lv) (d2:cI) (h2:Rep M (ba d2) c2) (A3:Oa) (k3:Nat) (d3:Cp) (h3:Sli M 8 aj A3 k3 d3) (d4:Int) (A5:Oa) (k5:Nat) (d5:List TA0) (h5:Sli M 3 lV A5 k5 d5) (r:Bool) (hF:dH n d0 d1 d2 d3 d4 d5=some r):Ok Tryz.prog M 3 [iB d0,.agg c1.toArray,.agg c2.toArray,sL A3 d3 k3,iL d4,sL A5 d5 k5] (λ_ v=>v=bO r):=by
 obtain⟨z1,rfl,g1⟩:=ez.opn h1
 obtain⟨z2,rfl,g2⟩:=bq.opn h2
 have h:=vo n d0 d1 d2 d3 d4 d5 (zRow z1 z2 λi=>if i=0 then {A:=A3,c:=k3} else {A:=A5,c:=k5})
 unfold Ty.ag at h
 rw[(zRow_1 d1).1,(zRow_1 d1).2,(zRow_2 d2).1,(zRow_2 d2).2] at h
 exact OkC.back h (Fh.app (Fh.app (Fh.app g1 g2) (Fh.one h3)) (Fh.one h5)) hF
theorem right27 (e0:Int) (e1:gH) (e2:cI) (e3:Cp) (e4:Int) (e5:List TA0) (h1:dsz (gd e1)≤1048576) (h2:dsz (ba e2)≤1048576) (h3:dsz (eL 8 aj e3)≤1048576) (_h5:dsz (eL 3 lV e5)≤1048576):dH 100000000000000000000 e0 e1 e2 e3 e4 e5=some true:=
 right_law (by omega) (by omega) (by omega) (zl_of h3) wakes27
end Go.Proofs.YtkmbfmdhoeibhaaGreat
end
section
namespace Go.Proofs.YtkmbfmdhoeibhaaGreat
open Go Go.Vc Go.RowKit
theorem opa_TI0 {H:Type} {enc:TypeId×Value→H} {w:World} {B:DataW H→Nat} (hB:BulkOk B): ∀m,OpnAt enc Tryz.prog w 184 aw B m:=by
 intro m
 induction m using Nat.strongRecOn with
 |ind m ih=>
 intro cs x h
 obtain⟨xs,n,rfl,rfl,hlen,hxl,hf⟩:=DataW.trod_struct Tryz.underlying184 h
 have hct:Tryz.prog.cellsOf 184=6:=by kernel_rfl
 rw[hct] at hlen
 obtain⟨x0,x1,x2,x3,x4,x5,rfl⟩: ∃x0 x1 x2 x3 x4 x5,xs=[x0,x1,x2,x3,x4,x5]:=by
  match xs,hxl with
  |[x0,x1,x2,x3,x4,x5],_=>exact⟨x0,x1,x2,x3,x4,x5,rfl⟩
 have f0:DataW.trod enc Tryz.prog w 0 (λ_=>true) true n 22 ((cs.drop 0).take (Tryz.prog.cellsOf 22))=some x0:=hf 0 _ rfl
 rw[show Tryz.prog.cellsOf 22=1 by kernel_rfl] at f0
 obtain⟨a0,r0,v0,b0⟩:=(λ_=>qx hB Tryz.underlying22) n _ _ f0
 have f1:DataW.trod enc Tryz.prog w 0 (λ_=>true) true n 4 ((cs.drop 1).take (Tryz.prog.cellsOf 4))=some x1:=hf 1 _ rfl
 rw[show Tryz.prog.cellsOf 4=1 by kernel_rfl] at f1
 obtain⟨a1,r1,v1,b1⟩:=(λ_=>mD hB Tryz.underlying4) n _ _ f1
 have f2:DataW.trod enc Tryz.prog w 0 (λ_=>true) true n 3 ((cs.drop 2).take (Tryz.prog.cellsOf 3))=some x2:=hf 2 _ rfl
 rw[show Tryz.prog.cellsOf 3=1 by kernel_rfl] at f2
 obtain⟨a2,r2,v2,b2⟩:=(λ_=>qx hB Tryz.underlying3) n _ _ f2
 have f3:DataW.trod enc Tryz.prog w 0 (λ_=>true) true n 9 ((cs.drop 3).take (Tryz.prog.cellsOf 9))=some x3:=hf 3 _ rfl
 rw[show Tryz.prog.cellsOf 9=1 by kernel_rfl] at f3
 obtain⟨a3,r3,v3,b3⟩:=(λ_=>dR hB Tryz.underlying9) n _ _ f3
 have f4:DataW.trod enc Tryz.prog w 0 (λ_=>true) true n 182 ((cs.drop 4).take (Tryz.prog.cellsOf 182))=some x4:=hf 4 _ rfl
 rw[show Tryz.prog.cellsOf 182=1 by kernel_rfl] at f4
 obtain⟨a4,r4,v4,b4⟩:=(cr (m:=n) (e:=184) (sz:=6) hB Tryz.underlying182 kr (λk hk=>ih k (by omega))) _ _ f4
 have f5:DataW.trod enc Tryz.prog w 0 (λ_=>true) true n 58 ((cs.drop 5).take (Tryz.prog.cellsOf 58))=some x5:=hf 5 _ rfl
 rw[show Tryz.prog.cellsOf 58=1 by kernel_rfl] at f5
 obtain⟨a5,r5,v5,b5⟩:=(cr (m:=n) (e:=9) (sz:=1) hB Tryz.underlying58 kr (λk _=>(λ_=>dR hB Tryz.underlying9) k)) _ _ f5
 refine⟨⟨a0,a1,a2,a3,a4,a5⟩,?_,?_,?_⟩
 ·rw[bP]
  have hcs:au (Mem.of w) _ (cs.drop 0):=(au.cut (k:=1) r0 (by rw[List.drop_drop];exact(au.cut (k:=1) r1 (by rw[List.drop_drop];exact(au.cut (k:=1) r2 (by rw[List.drop_drop];exact(au.cut (k:=1) r3 (by rw[List.drop_drop];exact(au.cut (k:=1) r4 (by rw[List.drop_drop];exact(au.cut (k:=1) r5 (by rw[List.drop_drop];exact(show au (Mem.of w) [] (cs.drop 6) from List.drop_eq_nil_of_le (by omega))))))))))))))
  exact hcs
 ·rw[bP];exact⟨v0,⟨v1,⟨v2,⟨v3,⟨v4,⟨v5,trivial⟩⟩⟩⟩⟩⟩
 rw[bP]
 have:=hB.agg ([x0,x1,x2,x3,x4,x5].map (·.1))
 simp only[List.map_cons,List.map_nil,List.sum_cons,List.sum_nil] at this ⊢
 simp only[dsz,dszs] at*
 omega
theorem AO {H:Type} {enc:TypeId×Value→H} {w:World} {B:DataW H→Nat} (hB:BulkOk B): ∀m,OpnAt enc Tryz.prog w 176 aN B m:=by
 intro m
 induction m using Nat.strongRecOn with
 |ind m ih=>
 intro cs x h
 obtain⟨xs,n,rfl,rfl,hlen,hxl,hf⟩:=DataW.trod_struct Tryz.underlying176 h
 have hct:Tryz.prog.cellsOf 176=6:=by kernel_rfl
 rw[hct] at hlen
 obtain⟨x0,x1,x2,x3,x4,x5,rfl⟩: ∃x0 x1 x2 x3 x4 x5,xs=[x0,x1,x2,x3,x4,x5]:=by
  match xs,hxl with
  |[x0,x1,x2,x3,x4,x5],_=>exact⟨x0,x1,x2,x3,x4,x5,rfl⟩
 have f0:DataW.trod enc Tryz.prog w 0 (λ_=>true) true n 22 ((cs.drop 0).take (Tryz.prog.cellsOf 22))=some x0:=hf 0 _ rfl
 rw[show Tryz.prog.cellsOf 22=1 by kernel_rfl] at f0
 obtain⟨a0,r0,v0,b0⟩:=(λ_=>qx hB Tryz.underlying22) n _ _ f0
 have f1:DataW.trod enc Tryz.prog w 0 (λ_=>true) true n 9 ((cs.drop 1).take (Tryz.prog.cellsOf 9))=some x1:=hf 1 _ rfl
 rw[show Tryz.prog.cellsOf 9=1 by kernel_rfl] at f1
 obtain⟨a1,r1,v1,b1⟩:=(λ_=>dR hB Tryz.underlying9) n _ _ f1
 have f2:DataW.trod enc Tryz.prog w 0 (λ_=>true) true n 3 ((cs.drop 2).take (Tryz.prog.cellsOf 3))=some x2:=hf 2 _ rfl
 rw[show Tryz.prog.cellsOf 3=1 by kernel_rfl] at f2
 obtain⟨a2,r2,v2,b2⟩:=(λ_=>qx hB Tryz.underlying3) n _ _ f2
 have f3:DataW.trod enc Tryz.prog w 0 (λ_=>true) true n 9 ((cs.drop 3).take (Tryz.prog.cellsOf 9))=some x3:=hf 3 _ rfl
 rw[show Tryz.prog.cellsOf 9=1 by kernel_rfl] at f3
 obtain⟨a3,r3,v3,b3⟩:=(λ_=>dR hB Tryz.underlying9) n _ _ f3
 have f4:DataW.trod enc Tryz.prog w 0 (λ_=>true) true n 9 ((cs.drop 4).take (Tryz.prog.cellsOf 9))=some x4:=hf 4 _ rfl
 rw[show Tryz.prog.cellsOf 9=1 by kernel_rfl] at f4
 obtain⟨a4,r4,v4,b4⟩:=(λ_=>dR hB Tryz.underlying9) n _ _ f4
 have f5:DataW.trod enc Tryz.prog w 0 (λ_=>true) true n 174 ((cs.drop 5).take (Tryz.prog.cellsOf 174))=some x5:=hf 5 _ rfl
 rw[show Tryz.prog.cellsOf 174=1 by kernel_rfl] at f5
 obtain⟨a5,r5,v5,b5⟩:=(cr (m:=n) (e:=176) (sz:=6) hB Tryz.underlying174 kr (λk hk=>ih k (by omega))) _ _ f5
 refine⟨⟨a0,a1,a2,a3,a4,a5⟩,?_,?_,?_⟩
 ·rw[bK]
  have hcs:au (Mem.of w) _ (cs.drop 0):=(au.cut (k:=1) r0 (by rw[List.drop_drop];exact(au.cut (k:=1) r1 (by rw[List.drop_drop];exact(au.cut (k:=1) r2 (by rw[List.drop_drop];exact(au.cut (k:=1) r3 (by rw[List.drop_drop];exact(au.cut (k:=1) r4 (by rw[List.drop_drop];exact(au.cut (k:=1) r5 (by rw[List.drop_drop];exact(show au (Mem.of w) [] (cs.drop 6) from List.drop_eq_nil_of_le (by omega))))))))))))))
  exact hcs
 ·rw[bK];exact⟨v0,⟨v1,⟨v2,⟨v3,⟨v4,⟨v5,trivial⟩⟩⟩⟩⟩⟩
 rw[bK]
 have:=hB.agg ([x0,x1,x2,x3,x4,x5].map (·.1))
 simp only[List.map_cons,List.map_nil,List.sum_cons,List.sum_nil] at this ⊢
 simp only[dsz,dszs] at*
 omega
theorem opa_TK0 {H:Type} {enc:TypeId×Value→H} {w:World} {B:DataW H→Nat} (hB:BulkOk B): ∀m,OpnAt enc Tryz.prog w 245 gI B m:=by
 intro m
 induction m using Nat.strongRecOn with
 |ind m ih=>
 intro cs x h
 obtain⟨xs,n,rfl,rfl,hlen,hxl,hf⟩:=DataW.trod_struct Tryz.underlying245 h
 have hct:Tryz.prog.cellsOf 245=10:=by kernel_rfl
 rw[hct] at hlen
 obtain⟨x0,x1,x2,x3,x4,rfl⟩: ∃x0 x1 x2 x3 x4,xs=[x0,x1,x2,x3,x4]:=by
  match xs,hxl with
  |[x0,x1,x2,x3,x4],_=>exact⟨x0,x1,x2,x3,x4,rfl⟩
 have f0:DataW.trod enc Tryz.prog w 0 (λ_=>true) true n 9 ((cs.drop 0).take (Tryz.prog.cellsOf 9))=some x0:=hf 0 _ rfl
 rw[show Tryz.prog.cellsOf 9=1 by kernel_rfl] at f0
 obtain⟨a0,r0,v0,b0⟩:=(λ_=>dR hB Tryz.underlying9) n _ _ f0
 have f1:DataW.trod enc Tryz.prog w 0 (λ_=>true) true n 4 ((cs.drop 1).take (Tryz.prog.cellsOf 4))=some x1:=hf 1 _ rfl
 rw[show Tryz.prog.cellsOf 4=1 by kernel_rfl] at f1
 obtain⟨a1,r1,v1,b1⟩:=(λ_=>mD hB Tryz.underlying4) n _ _ f1
 have f2:DataW.trod enc Tryz.prog w 0 (λ_=>true) true n 4 ((cs.drop 2).take (Tryz.prog.cellsOf 4))=some x2:=hf 2 _ rfl
 rw[show Tryz.prog.cellsOf 4=1 by kernel_rfl] at f2
 obtain⟨a2,r2,v2,b2⟩:=(λ_=>mD hB Tryz.underlying4) n _ _ f2
 have f3:DataW.trod enc Tryz.prog w 0 (λ_=>true) true n 184 ((cs.drop 3).take (Tryz.prog.cellsOf 184))=some x3:=hf 3 _ rfl
 rw[show Tryz.prog.cellsOf 184=6 by kernel_rfl] at f3
 obtain⟨a3,r3,v3,b3⟩:=(opa_TI0 hB) n _ _ f3
 have f4:DataW.trod enc Tryz.prog w 0 (λ_=>true) true n 182 ((cs.drop 9).take (Tryz.prog.cellsOf 182))=some x4:=hf 4 _ rfl
 rw[show Tryz.prog.cellsOf 182=1 by kernel_rfl] at f4
 obtain⟨a4,r4,v4,b4⟩:=(λm=>cr (e:=184) (sz:=6) hB Tryz.underlying182 kr (λk _=>(opa_TI0 hB) k)) n _ _ f4
 refine⟨⟨a0,a1,a2,a3,a4⟩,?_,?_,?_⟩
 ·rw[jT]
  have hcs:au (Mem.of w) _ (cs.drop 0):=(au.cut (k:=1) r0 (by rw[List.drop_drop];exact(au.cut (k:=1) r1 (by rw[List.drop_drop];exact(au.cut (k:=1) r2 (by rw[List.drop_drop];exact(au.cut (k:=6) r3 (by rw[List.drop_drop];exact(au.cut (k:=1) r4 (by rw[List.drop_drop];exact(show au (Mem.of w) [] (cs.drop 10) from List.drop_eq_nil_of_le (by omega))))))))))))
  exact hcs
 ·rw[jT];exact⟨v0,⟨v1,⟨v2,⟨v3,⟨v4,trivial⟩⟩⟩⟩⟩
 rw[jT]
 have:=hB.agg ([x0,x1,x2,x3,x4].map (·.1))
 simp only[List.map_cons,List.map_nil,List.sum_cons,List.sum_nil] at this ⊢
 simp only[dsz,dszs] at*
 omega
theorem opa_TM0 {H:Type} {enc:TypeId×Value→H} {w:World} {B:DataW H→Nat} (hB:BulkOk B): ∀m,OpnAt enc Tryz.prog w 191 bb B m:=by
 intro m
 induction m using Nat.strongRecOn with
 |ind m ih=>
 intro cs x h
 obtain⟨xs,n,rfl,rfl,hlen,hxl,hf⟩:=DataW.trod_struct Tryz.underlying191 h
 have hct:Tryz.prog.cellsOf 191=15:=by kernel_rfl
 rw[hct] at hlen
 obtain⟨x0,x1,x2,x3,x4,rfl⟩: ∃x0 x1 x2 x3 x4,xs=[x0,x1,x2,x3,x4]:=by
  match xs,hxl with
  |[x0,x1,x2,x3,x4],_=>exact⟨x0,x1,x2,x3,x4,rfl⟩
 have f0:DataW.trod enc Tryz.prog w 0 (λ_=>true) true n 9 ((cs.drop 0).take (Tryz.prog.cellsOf 9))=some x0:=hf 0 _ rfl
 rw[show Tryz.prog.cellsOf 9=1 by kernel_rfl] at f0
 obtain⟨a0,r0,v0,b0⟩:=(λ_=>dR hB Tryz.underlying9) n _ _ f0
 have f1:DataW.trod enc Tryz.prog w 0 (λ_=>true) true n 22 ((cs.drop 1).take (Tryz.prog.cellsOf 22))=some x1:=hf 1 _ rfl
 rw[show Tryz.prog.cellsOf 22=1 by kernel_rfl] at f1
 obtain⟨a1,r1,v1,b1⟩:=(λ_=>qx hB Tryz.underlying22) n _ _ f1
 have f2:DataW.trod enc Tryz.prog w 0 (λ_=>true) true n 176 ((cs.drop 2).take (Tryz.prog.cellsOf 176))=some x2:=hf 2 _ rfl
 rw[show Tryz.prog.cellsOf 176=6 by kernel_rfl] at f2
 obtain⟨a2,r2,v2,b2⟩:=(AO hB) n _ _ f2
 have f3:DataW.trod enc Tryz.prog w 0 (λ_=>true) true n 176 ((cs.drop 8).take (Tryz.prog.cellsOf 176))=some x3:=hf 3 _ rfl
 rw[show Tryz.prog.cellsOf 176=6 by kernel_rfl] at f3
 obtain⟨a3,r3,v3,b3⟩:=(AO hB) n _ _ f3
 have f4:DataW.trod enc Tryz.prog w 0 (λ_=>true) true n 28 ((cs.drop 14).take (Tryz.prog.cellsOf 28))=some x4:=hf 4 _ rfl
 rw[show Tryz.prog.cellsOf 28=1 by kernel_rfl] at f4
 obtain⟨a4,r4,v4,b4⟩:=(cr (m:=n) (e:=191) (sz:=15) hB Tryz.underlying28 kr (λk hk=>ih k (by omega))) _ _ f4
 refine⟨⟨a0,a1,a2,a3,a4⟩,?_,?_,?_⟩
 ·rw[iK]
  have hcs:au (Mem.of w) _ (cs.drop 0):=(au.cut (k:=1) r0 (by rw[List.drop_drop];exact(au.cut (k:=1) r1 (by rw[List.drop_drop];exact(au.cut (k:=6) r2 (by rw[List.drop_drop];exact(au.cut (k:=6) r3 (by rw[List.drop_drop];exact(au.cut (k:=1) r4 (by rw[List.drop_drop];exact(show au (Mem.of w) [] (cs.drop 15) from List.drop_eq_nil_of_le (by omega))))))))))))
  exact hcs
 ·rw[iK];exact⟨v0,⟨v1,⟨v2,⟨v3,⟨v4,trivial⟩⟩⟩⟩⟩
 rw[iK]
 have:=hB.agg ([x0,x1,x2,x3,x4].map (·.1))
 simp only[List.map_cons,List.map_nil,List.sum_cons,List.sum_nil] at this ⊢
 simp only[dsz,dszs] at*
 omega
theorem opa_TN0 {H:Type} {enc:TypeId×Value→H} {w:World} {B:DataW H→Nat} (hB:BulkOk B): ∀m,OpnAt enc Tryz.prog w 178 dJ B m:=by
 intro m
 induction m using Nat.strongRecOn with
 |ind m ih=>
 intro cs x h
 obtain⟨xs,n,rfl,rfl,hlen,hxl,hf⟩:=DataW.trod_struct Tryz.underlying178 h
 have hct:Tryz.prog.cellsOf 178=7:=by kernel_rfl
 rw[hct] at hlen
 obtain⟨x0,x1,rfl⟩: ∃x0 x1,xs=[x0,x1]:=by
  match xs,hxl with
  |[x0,x1],_=>exact⟨x0,x1,rfl⟩
 have f0:DataW.trod enc Tryz.prog w 0 (λ_=>true) true n 9 ((cs.drop 0).take (Tryz.prog.cellsOf 9))=some x0:=hf 0 _ rfl
 rw[show Tryz.prog.cellsOf 9=1 by kernel_rfl] at f0
 obtain⟨a0,r0,v0,b0⟩:=(λ_=>dR hB Tryz.underlying9) n _ _ f0
 have f1:DataW.trod enc Tryz.prog w 0 (λ_=>true) true n 176 ((cs.drop 1).take (Tryz.prog.cellsOf 176))=some x1:=hf 1 _ rfl
 rw[show Tryz.prog.cellsOf 176=6 by kernel_rfl] at f1
 obtain⟨a1,r1,v1,b1⟩:=(AO hB) n _ _ f1
 refine⟨⟨a0,a1⟩,?_,?_,?_⟩
 ·rw[iM]
  have hcs:au (Mem.of w) _ (cs.drop 0):=(au.cut (k:=1) r0 (by rw[List.drop_drop];exact(au.cut (k:=6) r1 (by rw[List.drop_drop];exact(show au (Mem.of w) [] (cs.drop 7) from List.drop_eq_nil_of_le (by omega))))))
  exact hcs
 ·rw[iM];exact⟨v0,⟨v1,trivial⟩⟩
 rw[iM]
 have:=hB.agg ([x0,x1].map (·.1))
 simp only[List.map_cons,List.map_nil,List.sum_cons,List.sum_nil] at this ⊢
 simp only[dsz,dszs] at*
 omega
theorem opa_TF0 {H:Type} {enc:TypeId×Value→H} {w:World} {B:DataW H→Nat} (hB:BulkOk B): ∀m,OpnAt enc Tryz.prog w 181 jf B m:=by
 intro m
 induction m using Nat.strongRecOn with
 |ind m ih=>
 intro cs x h
 obtain⟨xs,n,rfl,rfl,hlen,hxl,hf⟩:=DataW.trod_struct Tryz.underlying181 h
 have hct:Tryz.prog.cellsOf 181=8:=by kernel_rfl
 rw[hct] at hlen
 obtain⟨x0,x1,x2,rfl⟩: ∃x0 x1 x2,xs=[x0,x1,x2]:=by
  match xs,hxl with
  |[x0,x1,x2],_=>exact⟨x0,x1,x2,rfl⟩
 have f0:DataW.trod enc Tryz.prog w 0 (λ_=>true) true n 9 ((cs.drop 0).take (Tryz.prog.cellsOf 9))=some x0:=hf 0 _ rfl
 rw[show Tryz.prog.cellsOf 9=1 by kernel_rfl] at f0
 obtain⟨a0,r0,v0,b0⟩:=(λ_=>dR hB Tryz.underlying9) n _ _ f0
 have f1:DataW.trod enc Tryz.prog w 0 (λ_=>true) true n 9 ((cs.drop 1).take (Tryz.prog.cellsOf 9))=some x1:=hf 1 _ rfl
 rw[show Tryz.prog.cellsOf 9=1 by kernel_rfl] at f1
 obtain⟨a1,r1,v1,b1⟩:=(λ_=>dR hB Tryz.underlying9) n _ _ f1
 have f2:DataW.trod enc Tryz.prog w 0 (λ_=>true) true n 176 ((cs.drop 2).take (Tryz.prog.cellsOf 176))=some x2:=hf 2 _ rfl
 rw[show Tryz.prog.cellsOf 176=6 by kernel_rfl] at f2
 obtain⟨a2,r2,v2,b2⟩:=(AO hB) n _ _ f2
 refine⟨⟨a0,a1,a2⟩,?_,?_,?_⟩
 ·rw[jS]
  have hcs:au (Mem.of w) _ (cs.drop 0):=(au.cut (k:=1) r0 (by rw[List.drop_drop];exact(au.cut (k:=1) r1 (by rw[List.drop_drop];exact(au.cut (k:=6) r2 (by rw[List.drop_drop];exact(show au (Mem.of w) [] (cs.drop 8) from List.drop_eq_nil_of_le (by omega))))))))
  exact hcs
 ·rw[jS];exact⟨v0,⟨v1,⟨v2,trivial⟩⟩⟩
 rw[jS]
 have:=hB.agg ([x0,x1,x2].map (·.1))
 simp only[List.map_cons,List.map_nil,List.sum_cons,List.sum_nil] at this ⊢
 simp only[dsz,dszs] at*
 omega
theorem opa_TC0_TB0 {H:Type} {enc:TypeId×Value→H} {w:World} {B:DataW H→Nat} (hB:BulkOk B): ∀m,OpnAt enc Tryz.prog w 125 cg B m∧OpnAt enc Tryz.prog w 32 ba B m:=by
 intro m
 induction m using Nat.strongRecOn with
 |ind m ih=>
 refine⟨?_,?_⟩
 ·skip
  intro cs x h
  obtain⟨xs,n,rfl,rfl,hlen,hxl,hf⟩:=DataW.trod_struct Tryz.underlying125 h
  have hct:Tryz.prog.cellsOf 125=7:=by kernel_rfl
  rw[hct] at hlen
  obtain⟨x0,x1,x2,x3,x4,x5,x6,rfl⟩: ∃x0 x1 x2 x3 x4 x5 x6,xs=[x0,x1,x2,x3,x4,x5,x6]:=by
   match xs,hxl with
   |[x0,x1,x2,x3,x4,x5,x6],_=>exact⟨x0,x1,x2,x3,x4,x5,x6,rfl⟩
  have f0:DataW.trod enc Tryz.prog w 0 (λ_=>true) true n 9 ((cs.drop 0).take (Tryz.prog.cellsOf 9))=some x0:=hf 0 _ rfl
  rw[show Tryz.prog.cellsOf 9=1 by kernel_rfl] at f0
  obtain⟨a0,r0,v0,b0⟩:=(λ_=>dR hB Tryz.underlying9) n _ _ f0
  have f1:DataW.trod enc Tryz.prog w 0 (λ_=>true) true n 9 ((cs.drop 1).take (Tryz.prog.cellsOf 9))=some x1:=hf 1 _ rfl
  rw[show Tryz.prog.cellsOf 9=1 by kernel_rfl] at f1
  obtain⟨a1,r1,v1,b1⟩:=(λ_=>dR hB Tryz.underlying9) n _ _ f1
  have f2:DataW.trod enc Tryz.prog w 0 (λ_=>true) true n 9 ((cs.drop 2).take (Tryz.prog.cellsOf 9))=some x2:=hf 2 _ rfl
  rw[show Tryz.prog.cellsOf 9=1 by kernel_rfl] at f2
  obtain⟨a2,r2,v2,b2⟩:=(λ_=>dR hB Tryz.underlying9) n _ _ f2
  have f3:DataW.trod enc Tryz.prog w 0 (λ_=>true) true n 122 ((cs.drop 3).take (Tryz.prog.cellsOf 122))=some x3:=hf 3 _ rfl
  rw[show Tryz.prog.cellsOf 122=1 by kernel_rfl] at f3
  obtain⟨a3,r3,v3,b3⟩:=(cr (m:=n) (e:=178) (sz:=7) hB Tryz.underlying122 kr (λk _=>(opa_TN0 hB) k)) _ _ f3
  have f4:DataW.trod enc Tryz.prog w 0 (λ_=>true) true n 58 ((cs.drop 4).take (Tryz.prog.cellsOf 58))=some x4:=hf 4 _ rfl
  rw[show Tryz.prog.cellsOf 58=1 by kernel_rfl] at f4
  obtain⟨a4,r4,v4,b4⟩:=(cr (m:=n) (e:=9) (sz:=1) hB Tryz.underlying58 kr (λk _=>(λ_=>dR hB Tryz.underlying9) k)) _ _ f4
  have f5:DataW.trod enc Tryz.prog w 0 (λ_=>true) true n 4 ((cs.drop 5).take (Tryz.prog.cellsOf 4))=some x5:=hf 5 _ rfl
  rw[show Tryz.prog.cellsOf 4=1 by kernel_rfl] at f5
  obtain⟨a5,r5,v5,b5⟩:=(λ_=>mD hB Tryz.underlying4) n _ _ f5
  have f6:DataW.trod enc Tryz.prog w 0 (λ_=>true) true n 123 ((cs.drop 6).take (Tryz.prog.cellsOf 123))=some x6:=hf 6 _ rfl
  rw[show Tryz.prog.cellsOf 123=1 by kernel_rfl] at f6
  obtain⟨a6,r6,v6,b6⟩:=(cr (m:=n) (e:=32) (sz:=4) hB Tryz.underlying123 kr (λk hk=>(ih k (by omega)).2)) _ _ f6
  refine⟨⟨a0,a1,a2,a3,a4,a5,a6⟩,?_,?_,?_⟩
  ·rw[gu]
   have hcs:au (Mem.of w) _ (cs.drop 0):=(au.cut (k:=1) r0 (by rw[List.drop_drop];exact(au.cut (k:=1) r1 (by rw[List.drop_drop];exact(au.cut (k:=1) r2 (by rw[List.drop_drop];exact(au.cut (k:=1) r3 (by rw[List.drop_drop];exact(au.cut (k:=1) r4 (by rw[List.drop_drop];exact(au.cut (k:=1) r5 (by rw[List.drop_drop];exact(au.cut (k:=1) r6 (by rw[List.drop_drop];exact(show au (Mem.of w) [] (cs.drop 7) from List.drop_eq_nil_of_le (by omega))))))))))))))))
   exact hcs
  ·rw[gu];exact⟨v0,⟨v1,⟨v2,⟨v3,⟨v4,⟨v5,⟨v6,trivial⟩⟩⟩⟩⟩⟩⟩
  rw[gu]
  have:=hB.agg ([x0,x1,x2,x3,x4,x5,x6].map (·.1))
  simp only[List.map_cons,List.map_nil,List.sum_cons,List.sum_nil] at this ⊢
  simp only[dsz,dszs] at*
  omega
 skip
 intro cs x h
 obtain⟨xs,n,rfl,rfl,hlen,hxl,hf⟩:=DataW.trod_struct Tryz.underlying32 h
 have hct:Tryz.prog.cellsOf 32=4:=by kernel_rfl
 rw[hct] at hlen
 obtain⟨x0,x1,x2,x3,rfl⟩: ∃x0 x1 x2 x3,xs=[x0,x1,x2,x3]:=by
  match xs,hxl with
  |[x0,x1,x2,x3],_=>exact⟨x0,x1,x2,x3,rfl⟩
 have f0:DataW.trod enc Tryz.prog w 0 (λ_=>true) true n 27 ((cs.drop 0).take (Tryz.prog.cellsOf 27))=some x0:=hf 0 _ rfl
 rw[show Tryz.prog.cellsOf 27=1 by kernel_rfl] at f0
 obtain⟨a0,r0,v0,b0⟩:=(cr (m:=n) (e:=245) (sz:=10) hB Tryz.underlying27 kr (λk _=>(opa_TK0 hB) k)) _ _ f0
 have f1:DataW.trod enc Tryz.prog w 0 (λ_=>true) true n 28 ((cs.drop 1).take (Tryz.prog.cellsOf 28))=some x1:=hf 1 _ rfl
 rw[show Tryz.prog.cellsOf 28=1 by kernel_rfl] at f1
 obtain⟨a1,r1,v1,b1⟩:=(cr (m:=n) (e:=191) (sz:=15) hB Tryz.underlying28 kr (λk _=>(opa_TM0 hB) k)) _ _ f1
 have f2:DataW.trod enc Tryz.prog w 0 (λ_=>true) true n 29 ((cs.drop 2).take (Tryz.prog.cellsOf 29))=some x2:=hf 2 _ rfl
 rw[show Tryz.prog.cellsOf 29=1 by kernel_rfl] at f2
 obtain⟨a2,r2,v2,b2⟩:=(cr (m:=n) (e:=125) (sz:=7) hB Tryz.underlying29 kr (λk hk=>(ih k (by omega)).1)) _ _ f2
 have f3:DataW.trod enc Tryz.prog w 0 (λ_=>true) true n 30 ((cs.drop 3).take (Tryz.prog.cellsOf 30))=some x3:=hf 3 _ rfl
 rw[show Tryz.prog.cellsOf 30=1 by kernel_rfl] at f3
 obtain⟨a3,r3,v3,b3⟩:=(cr (m:=n) (e:=181) (sz:=8) hB Tryz.underlying30 kr (λk _=>(opa_TF0 hB) k)) _ _ f3
 refine⟨⟨a0,a1,a2,a3⟩,?_,?_,?_⟩
 ·rw[gr]
  have hcs:au (Mem.of w) _ (cs.drop 0):=(au.cut (k:=1) r0 (by rw[List.drop_drop];exact(au.cut (k:=1) r1 (by rw[List.drop_drop];exact(au.cut (k:=1) r2 (by rw[List.drop_drop];exact(au.cut (k:=1) r3 (by rw[List.drop_drop];exact(show au (Mem.of w) [] (cs.drop 4) from List.drop_eq_nil_of_le (by omega))))))))))
  exact hcs
 ·rw[gr];exact⟨v0,⟨v1,⟨v2,⟨v3,trivial⟩⟩⟩⟩
 rw[gr]
 have:=hB.agg ([x0,x1,x2,x3].map (·.1))
 simp only[List.map_cons,List.map_nil,List.sum_cons,List.sum_nil] at this ⊢
 simp only[dsz,dszs] at*
 omega
theorem opa_TB0 {H:Type} {enc:TypeId×Value→H} {w:World} {B:DataW H→Nat} (hB:BulkOk B) (m:Nat):OpnAt enc Tryz.prog w 32 ba B m:=(opa_TC0_TB0 hB m).2
theorem AN {H:Type} {enc:TypeId×Value→H} {w:World} {B:DataW H→Nat} (hB:BulkOk B): ∀m,OpnAt enc Tryz.prog w 186 aj B m:=by
 intro m
 induction m using Nat.strongRecOn with
 |ind m ih=>
 intro cs x h
 obtain⟨xs,n,rfl,rfl,hlen,hxl,hf⟩:=DataW.trod_struct Tryz.underlying186 h
 have hct:Tryz.prog.cellsOf 186=8:=by kernel_rfl
 rw[hct] at hlen
 obtain⟨x0,x1,x2,rfl⟩: ∃x0 x1 x2,xs=[x0,x1,x2]:=by
  match xs,hxl with
  |[x0,x1,x2],_=>exact⟨x0,x1,x2,rfl⟩
 have f0:DataW.trod enc Tryz.prog w 0 (λ_=>true) true n 9 ((cs.drop 0).take (Tryz.prog.cellsOf 9))=some x0:=hf 0 _ rfl
 rw[show Tryz.prog.cellsOf 9=1 by kernel_rfl] at f0
 obtain⟨a0,r0,v0,b0⟩:=(λ_=>dR hB Tryz.underlying9) n _ _ f0
 have f1:DataW.trod enc Tryz.prog w 0 (λ_=>true) true n 4 ((cs.drop 1).take (Tryz.prog.cellsOf 4))=some x1:=hf 1 _ rfl
 rw[show Tryz.prog.cellsOf 4=1 by kernel_rfl] at f1
 obtain⟨a1,r1,v1,b1⟩:=(λ_=>mD hB Tryz.underlying4) n _ _ f1
 have f2:DataW.trod enc Tryz.prog w 0 (λ_=>true) true n 184 ((cs.drop 2).take (Tryz.prog.cellsOf 184))=some x2:=hf 2 _ rfl
 rw[show Tryz.prog.cellsOf 184=6 by kernel_rfl] at f2
 obtain⟨a2,r2,v2,b2⟩:=(opa_TI0 hB) n _ _ f2
 refine⟨⟨a0,a1,a2⟩,?_,?_,?_⟩
 ·rw[du]
  have hcs:au (Mem.of w) _ (cs.drop 0):=(au.cut (k:=1) r0 (by rw[List.drop_drop];exact(au.cut (k:=1) r1 (by rw[List.drop_drop];exact(au.cut (k:=6) r2 (by rw[List.drop_drop];exact(show au (Mem.of w) [] (cs.drop 8) from List.drop_eq_nil_of_le (by omega))))))))
  exact hcs
 ·rw[du];exact⟨v0,⟨v1,⟨v2,trivial⟩⟩⟩
 rw[du]
 have:=hB.agg ([x0,x1,x2].map (·.1))
 simp only[List.map_cons,List.map_nil,List.sum_cons,List.sum_nil] at this ⊢
 simp only[dsz,dszs] at*
 omega
theorem opa_TW0 {H:Type} {enc:TypeId×Value→H} {w:World} {B:DataW H→Nat} (hB:BulkOk B): ∀m,OpnAt enc Tryz.prog w 60 aK B m:=by
 intro m
 induction m using Nat.strongRecOn with
 |ind m ih=>
 intro cs x h
 obtain⟨xs,n,rfl,rfl,hlen,hxl,hf⟩:=DataW.trod_struct Tryz.underlying60 h
 have hct:Tryz.prog.cellsOf 60=6:=by kernel_rfl
 rw[hct] at hlen
 obtain⟨x0,x1,x2,x3,x4,x5,rfl⟩: ∃x0 x1 x2 x3 x4 x5,xs=[x0,x1,x2,x3,x4,x5]:=by
  match xs,hxl with
  |[x0,x1,x2,x3,x4,x5],_=>exact⟨x0,x1,x2,x3,x4,x5,rfl⟩
 have f0:DataW.trod enc Tryz.prog w 0 (λ_=>true) true n 9 ((cs.drop 0).take (Tryz.prog.cellsOf 9))=some x0:=hf 0 _ rfl
 rw[show Tryz.prog.cellsOf 9=1 by kernel_rfl] at f0
 obtain⟨a0,r0,v0,b0⟩:=(λ_=>dR hB Tryz.underlying9) n _ _ f0
 have f1:DataW.trod enc Tryz.prog w 0 (λ_=>true) true n 9 ((cs.drop 1).take (Tryz.prog.cellsOf 9))=some x1:=hf 1 _ rfl
 rw[show Tryz.prog.cellsOf 9=1 by kernel_rfl] at f1
 obtain⟨a1,r1,v1,b1⟩:=(λ_=>dR hB Tryz.underlying9) n _ _ f1
 have f2:DataW.trod enc Tryz.prog w 0 (λ_=>true) true n 9 ((cs.drop 2).take (Tryz.prog.cellsOf 9))=some x2:=hf 2 _ rfl
 rw[show Tryz.prog.cellsOf 9=1 by kernel_rfl] at f2
 obtain⟨a2,r2,v2,b2⟩:=(λ_=>dR hB Tryz.underlying9) n _ _ f2
 have f3:DataW.trod enc Tryz.prog w 0 (λ_=>true) true n 24 ((cs.drop 3).take (Tryz.prog.cellsOf 24))=some x3:=hf 3 _ rfl
 rw[show Tryz.prog.cellsOf 24=1 by kernel_rfl] at f3
 obtain⟨a3,r3,v3,b3⟩:=(λm=>cr (e:=186) (sz:=8) hB Tryz.underlying24 kr (λk _=>(AN hB) k)) n _ _ f3
 have f4:DataW.trod enc Tryz.prog w 0 (λ_=>true) true n 4 ((cs.drop 4).take (Tryz.prog.cellsOf 4))=some x4:=hf 4 _ rfl
 rw[show Tryz.prog.cellsOf 4=1 by kernel_rfl] at f4
 obtain⟨a4,r4,v4,b4⟩:=(λ_=>mD hB Tryz.underlying4) n _ _ f4
 have f5:DataW.trod enc Tryz.prog w 0 (λ_=>true) true n 58 ((cs.drop 5).take (Tryz.prog.cellsOf 58))=some x5:=hf 5 _ rfl
 rw[show Tryz.prog.cellsOf 58=1 by kernel_rfl] at f5
 obtain⟨a5,r5,v5,b5⟩:=(λm=>cr (e:=9) (sz:=1) hB Tryz.underlying58 kr (λk _=>(λ_=>dR hB Tryz.underlying9) k)) n _ _ f5
 refine⟨⟨a0,a1,a2,a3,a4,a5⟩,?_,?_,?_⟩
 ·rw[eD]
  have hcs:au (Mem.of w) _ (cs.drop 0):=(au.cut (k:=1) r0 (by rw[List.drop_drop];exact(au.cut (k:=1) r1 (by rw[List.drop_drop];exact(au.cut (k:=1) r2 (by rw[List.drop_drop];exact(au.cut (k:=1) r3 (by rw[List.drop_drop];exact(au.cut (k:=1) r4 (by rw[List.drop_drop];exact(au.cut (k:=1) r5 (by rw[List.drop_drop];exact(show au (Mem.of w) [] (cs.drop 6) from List.drop_eq_nil_of_le (by omega))))))))))))))
  exact hcs
 ·rw[eD];exact⟨v0,⟨v1,⟨v2,⟨v3,⟨v4,⟨v5,trivial⟩⟩⟩⟩⟩⟩
 rw[eD]
 have:=hB.agg ([x0,x1,x2,x3,x4,x5].map (·.1))
 simp only[List.map_cons,List.map_nil,List.sum_cons,List.sum_nil] at this ⊢
 simp only[dsz,dszs] at*
 omega
theorem opa_TL0 {H:Type} {enc:TypeId×Value→H} {w:World} {B:DataW H→Nat} (hB:BulkOk B): ∀m,OpnAt enc Tryz.prog w 26 gd B m:=by
 intro m
 induction m using Nat.strongRecOn with
 |ind m ih=>
 intro cs x h
 obtain⟨xs,n,rfl,rfl,hlen,hxl,hf⟩:=DataW.trod_struct Tryz.underlying26 h
 have hct:Tryz.prog.cellsOf 26=8:=by kernel_rfl
 rw[hct] at hlen
 obtain⟨x0,x1,x2,x3,x4,x5,x6,x7,rfl⟩: ∃x0 x1 x2 x3 x4 x5 x6 x7,xs=[x0,x1,x2,x3,x4,x5,x6,x7]:=by
  match xs,hxl with
  |[x0,x1,x2,x3,x4,x5,x6,x7],_=>exact⟨x0,x1,x2,x3,x4,x5,x6,x7,rfl⟩
 have f0:DataW.trod enc Tryz.prog w 0 (λ_=>true) true n 23 ((cs.drop 0).take (Tryz.prog.cellsOf 23))=some x0:=hf 0 _ rfl
 rw[show Tryz.prog.cellsOf 23=1 by kernel_rfl] at f0
 obtain⟨a0,r0,v0,b0⟩:=(λm=>cr (e:=60) (sz:=6) hB Tryz.underlying23 kr (λk _=>(opa_TW0 hB) k)) n _ _ f0
 have f1:DataW.trod enc Tryz.prog w 0 (λ_=>true) true n 23 ((cs.drop 1).take (Tryz.prog.cellsOf 23))=some x1:=hf 1 _ rfl
 rw[show Tryz.prog.cellsOf 23=1 by kernel_rfl] at f1
 obtain⟨a1,r1,v1,b1⟩:=(λm=>cr (e:=60) (sz:=6) hB Tryz.underlying23 kr (λk _=>(opa_TW0 hB) k)) n _ _ f1
 have f2:DataW.trod enc Tryz.prog w 0 (λ_=>true) true n 23 ((cs.drop 2).take (Tryz.prog.cellsOf 23))=some x2:=hf 2 _ rfl
 rw[show Tryz.prog.cellsOf 23=1 by kernel_rfl] at f2
 obtain⟨a2,r2,v2,b2⟩:=(λm=>cr (e:=60) (sz:=6) hB Tryz.underlying23 kr (λk _=>(opa_TW0 hB) k)) n _ _ f2
 have f3:DataW.trod enc Tryz.prog w 0 (λ_=>true) true n 24 ((cs.drop 3).take (Tryz.prog.cellsOf 24))=some x3:=hf 3 _ rfl
 rw[show Tryz.prog.cellsOf 24=1 by kernel_rfl] at f3
 obtain⟨a3,r3,v3,b3⟩:=(λm=>cr (e:=186) (sz:=8) hB Tryz.underlying24 kr (λk _=>(AN hB) k)) n _ _ f3
 have f4:DataW.trod enc Tryz.prog w 0 (λ_=>true) true n 9 ((cs.drop 4).take (Tryz.prog.cellsOf 9))=some x4:=hf 4 _ rfl
 rw[show Tryz.prog.cellsOf 9=1 by kernel_rfl] at f4
 obtain⟨a4,r4,v4,b4⟩:=(λ_=>dR hB Tryz.underlying9) n _ _ f4
 have f5:DataW.trod enc Tryz.prog w 0 (λ_=>true) true n 24 ((cs.drop 5).take (Tryz.prog.cellsOf 24))=some x5:=hf 5 _ rfl
 rw[show Tryz.prog.cellsOf 24=1 by kernel_rfl] at f5
 obtain⟨a5,r5,v5,b5⟩:=(λm=>cr (e:=186) (sz:=8) hB Tryz.underlying24 kr (λk _=>(AN hB) k)) n _ _ f5
 have f6:DataW.trod enc Tryz.prog w 0 (λ_=>true) true n 3 ((cs.drop 6).take (Tryz.prog.cellsOf 3))=some x6:=hf 6 _ rfl
 rw[show Tryz.prog.cellsOf 3=1 by kernel_rfl] at f6
 obtain⟨a6,r6,v6,b6⟩:=(λ_=>qx hB Tryz.underlying3) n _ _ f6
 have f7:DataW.trod enc Tryz.prog w 0 (λ_=>true) true n 22 ((cs.drop 7).take (Tryz.prog.cellsOf 22))=some x7:=hf 7 _ rfl
 rw[show Tryz.prog.cellsOf 22=1 by kernel_rfl] at f7
 obtain⟨a7,r7,v7,b7⟩:=(λ_=>qx hB Tryz.underlying22) n _ _ f7
 refine⟨⟨a0,a1,a2,a3,a4,a5,a6,a7⟩,?_,?_,?_⟩
 ·rw[lC]
  have hcs:au (Mem.of w) _ (cs.drop 0):=(au.cut (k:=1) r0 (by rw[List.drop_drop];exact(au.cut (k:=1) r1 (by rw[List.drop_drop];exact(au.cut (k:=1) r2 (by rw[List.drop_drop];exact(au.cut (k:=1) r3 (by rw[List.drop_drop];exact(au.cut (k:=1) r4 (by rw[List.drop_drop];exact(au.cut (k:=1) r5 (by rw[List.drop_drop];exact(au.cut (k:=1) r6 (by rw[List.drop_drop];exact(au.cut (k:=1) r7 (by rw[List.drop_drop];exact(show au (Mem.of w) [] (cs.drop 8) from List.drop_eq_nil_of_le (by omega))))))))))))))))))
  exact hcs
 ·rw[lC];exact⟨v0,⟨v1,⟨v2,⟨v3,⟨v4,⟨v5,⟨v6,⟨v7,trivial⟩⟩⟩⟩⟩⟩⟩⟩
 rw[lC]
 have:=hB.agg ([x0,x1,x2,x3,x4,x5,x6,x7].map (·.1))
 simp only[List.map_cons,List.map_nil,List.sum_cons,List.sum_nil] at this ⊢
 simp only[dsz,dszs] at*
 omega
theorem opa_TA0 {H:Type} {enc:TypeId×Value→H} {w:World} {B:DataW H→Nat} (hB:BulkOk B): ∀m,OpnAt enc Tryz.prog w 51 lV B m:=by
 intro m
 induction m using Nat.strongRecOn with
 |ind m ih=>
 intro cs x h
 obtain⟨xs,n,rfl,rfl,hlen,hxl,hf⟩:=DataW.trod_struct Tryz.underlying51 h
 have hct:Tryz.prog.cellsOf 51=3:=by kernel_rfl
 rw[hct] at hlen
 obtain⟨x0,x1,x2,rfl⟩: ∃x0 x1 x2,xs=[x0,x1,x2]:=by
  match xs,hxl with
  |[x0,x1,x2],_=>exact⟨x0,x1,x2,rfl⟩
 have f0:DataW.trod enc Tryz.prog w 0 (λ_=>true) true n 4 ((cs.drop 0).take (Tryz.prog.cellsOf 4))=some x0:=hf 0 _ rfl
 rw[show Tryz.prog.cellsOf 4=1 by kernel_rfl] at f0
 obtain⟨a0,r0,v0,b0⟩:=(λ_=>mD hB Tryz.underlying4) n _ _ f0
 have f1:DataW.trod enc Tryz.prog w 0 (λ_=>true) true n 3 ((cs.drop 1).take (Tryz.prog.cellsOf 3))=some x1:=hf 1 _ rfl
 rw[show Tryz.prog.cellsOf 3=1 by kernel_rfl] at f1
 obtain⟨a1,r1,v1,b1⟩:=(λ_=>qx hB Tryz.underlying3) n _ _ f1
 have f2:DataW.trod enc Tryz.prog w 0 (λ_=>true) true n 4 ((cs.drop 2).take (Tryz.prog.cellsOf 4))=some x2:=hf 2 _ rfl
 rw[show Tryz.prog.cellsOf 4=1 by kernel_rfl] at f2
 obtain⟨a2,r2,v2,b2⟩:=(λ_=>mD hB Tryz.underlying4) n _ _ f2
 refine⟨⟨a0,a1,a2⟩,?_,?_,?_⟩
 ·rw[oX]
  have hcs:au (Mem.of w) _ (cs.drop 0):=(au.cut (k:=1) r0 (by rw[List.drop_drop];exact(au.cut (k:=1) r1 (by rw[List.drop_drop];exact(au.cut (k:=1) r2 (by rw[List.drop_drop];exact(show au (Mem.of w) [] (cs.drop 3) from List.drop_eq_nil_of_le (by omega))))))))
  exact hcs
 ·rw[oX];exact⟨v0,⟨v1,⟨v2,trivial⟩⟩⟩
 rw[oX]
 have:=hB.agg ([x0,x1,x2].map (·.1))
 simp only[List.map_cons,List.map_nil,List.sum_cons,List.sum_nil] at this ⊢
 simp only[dsz,dszs] at*
 omega
theorem Bf {H:Type} (l:List (DataW H)):Rows.uptoBulkAll l=(l.map Rows.uptoBulk).sum:=by
 induction l with
 |nil=>simp[Rows.uptoBulkAll]
 |cons x l ih=>simp only[Rows.uptoBulkAll,List.map_cons,List.sum_cons,ih]
theorem bulk_ok {H:Type}:BulkOk (H:=H) Rows.uptoBulk where
 one d:=by
  cases d with
  |lit l=>cases l<;>simp[Rows.uptoBulk]
  |nil=>simp[Rows.uptoBulk]
  |ptr d=>simp[Rows.uptoBulk]
  |slice elems spare=>simp[Rows.uptoBulk]
  |agg parts=>simp[Rows.uptoBulk]
  |iface t d=>simp[Rows.uptoBulk]
  |map entries=>simp[Rows.uptoBulk]
  |held h=>simp[Rows.uptoBulk]
 str l:=by simp[Rows.uptoBulk]
 slice e s:=by
  simp only[Rows.uptoBulk]
  rw[Bf e]
  omega
 agg e:=by
  simp only[Rows.uptoBulk]
  rw[Bf e]
  exact Nat.le_refl _
theorem xR {H:Type} {d:DataW H} {l:List (DataW H)} (h:Rows.uptoSmall H l=true) (hd:d∈l):Rows.uptoBulk d≤1048576:=by
 unfold Rows.uptoSmall at h
 have h:=of_decide_eq_true h
 rw[Bf] at h
 have:=le_sum (List.mem_map_of_mem (f:=Rows.uptoBulk) hd)
 omega
end Go.Proofs.YtkmbfmdhoeibhaaGreat
end
