/-
  Texts of this claim, packed (what nothing names is left out): L1, LP, L2, L4, LE, L5, L3, LPo, L3w, L5w, Op. Own work, partly printed by own programs. No condition.
-/
import Derived.Test.YtkmbfmdhoeibhaaGreatPkM7
import Derived.Test.YtkmbfmdhoeibhaaGreatPkM2
import Derived.Test.YtkmbfmdhoeibhaaGreatPkM1
import Derived.Test.YtkmbfmdhoeibhaaGreatRows
set_option linter.unusedVariables false
set_option linter.unusedSimpArgs false
set_option maxHeartbeats 2000000
section
namespace Go.Proofs.YtkmbfmdhoeibhaaGreat
open Go Go.Vc Go.RowKit
variable {n:Nat}
theorem find_at {α:Type} {p:α→Bool} {xs:List α} {i:Int} {x:α} (h:aq xs i=some x) (hx:p x=true) (hb: ∀y∈xs.take i.toNat,p y=false):xs.find? p=some x:=by
 obtain⟨h0,h1,h2⟩:=dG h
 have e:xs=xs.take i.toNat++x::xs.drop (i.toNat+1):=by
  obtain⟨h3,h4⟩:=List.getElem?_eq_some_iff.1 h2
  rw[←h4,←List.drop_eq_getElem_cons,List.take_append_drop]
 rw[e,List.find?_append,List.find?_eq_none.2 λy hy=>by rw[hb y hy];simp]
 simp[hx]
def ownV (s:gM) (k:Bs):Option ib:=s.aV.find? λo=>decide (o.cA=k)
def ownR (s:gM) (k:Bs):ib×Bool:=match ownV s k with|some o=>(o,true)|none=>(yx,false)
theorem own_find {α:Type} {P:α→Prop} {xs:List α} {p:α→Bool} {step:Int→Option (Lp Int (Sum Int Unit))} (hn:xs.length<n) (hs: ∀s:Int,0≤s→∀ (h:s<xs.length),∀x,aq xs s=some x→step s=bif p x then some (.br (.inl s)) else some (.nx (s+1))) (he: ∀s:Int,¬s<xs.length→step s=some (.br (.inr ()))):Tot (av step n (0:Int)) λb=>match b with|.inl i=>∃x,aq xs i=some x∧xs.find? p=some x|.inr _=>xs.find? p=none:=by
 refine Tot.lm xs (λs=>s) (λx=>p x=false) (λ_=>True) hn rfl trivial (Q:=λb:Sum Int Unit=>match b with|.inl i=>∃x,aq xs i=some x∧xs.find? p=some x|.inr _=>xs.find? p=none) λs h1 _ hm=>?_
 by_cases h2:s<xs.length
 ·obtain⟨x,hx,hk⟩: ∃x,aq xs s=some x∧(p x=false→∀y∈xs.take (s+1).toNat,p y=false):=Tot.gm (Q:=λx=>p x=false→∀y∈xs.take (s+1).toNat,p y=false) ⟨h1,h2⟩ λx hx ht h=>ht hm h
  rw[hs s h1 h2 x hx]
  exact Tot.c (λh=>Tot.sb ⟨x,hx,find_at hx h hm⟩) λh=>Tot.sn ⟨h2,rfl,hk h,trivial⟩
 rw[he s h2]
 exact Tot.sb (List.find?_eq_none.2 λy hy=>by rw[cL h2 hm y hy];simp)
theorem own_pg {s:gM} {k:Bs} (hn:10000000000001<n) (hs:s.aV.length≤100):ke n s k=some (ownR s k):=by
 suffices h:Tot (ke n s k) λr=>r=ownR s k by
  obtain⟨r,h1,h2⟩:=h
  rw[h1,h2]
 unfold ke dB
 refine Tot.b (Tot.b ((own_find (P:=λ_=>True) (xs:=s.aV) (p:=λo=>decide (o.cA=k)) (by omega) (λt h0 h1 x hx=>?_) λt h1=>?_).m λb hb=>?_))
 ·unfold dj vQ
  rw[dT h1,cT,hx,bnd,bnd,bK (by omega) (by omega)]
 ·unfold dj
  rw[dF h1,Vc.cF]
 cases b with
 |inl i=>
  obtain⟨x,hx,hf⟩:=hb
  have:=(dG hx).1
  exact Tot.s (Tot.cd (λ_=>Tot.b (Tot.ge hx (Tot.s (by unfold ownR ownV;rw[hf])))) λh=>(h this).elim)
 |inr _=>exact Tot.s (Tot.cd (λh=>by simp at h) λ_=>Tot.s (by unfold ownR ownV;rw[hb]))
def goO (s:gM) (c:dc):Option ib:=if c.aE=4∨c.aE=3 then ownV s c.cA else none
def goFrom (s:gM):Nat→Cx→List (Int×ib)|_,[]=>[]|i,c::cs=>match goO s c with|some o=>((i:Int),o)::goFrom s (i+1) cs|none=>goFrom s (i+1) cs
theorem AZ {s:gM} {x:Int×ib}: ∀ {l:Cx} {i:Nat},x∈goFrom s i l↔ ∃k,∃h:k<l.length,x.1=(i:Int)+k∧goO s l[k]=some x.2
 |[],i=>by simp[goFrom]
 |c::cs,i=>by
  unfold goFrom
  have ih:=AZ (s:=s) (x:=x) (l:=cs) (i:=i+1)
  have tail:x∈goFrom s (i+1) cs↔ ∃k,∃h:k+1<(c::cs).length,x.1=(i:Int)+ ((k+1:Nat):Int)∧goO s (c::cs)[k+1]=some x.2:=by
   rw[ih]
   constructor
   ·rintro⟨k,h,e1,e2⟩;exact⟨k,by simp;omega,by omega,e2⟩
   rintro⟨k,h,e1,e2⟩;exact⟨k,by simp at h;omega,by omega,e2⟩
  constructor
  ·intro h
   split at h
   ·rename_i o ho
    rcases List.mem_cons.1 h with h|h
    ·exact⟨0,by simp,by simp[h],by rw[h];exact ho⟩
    obtain⟨k,hk,e⟩:=tail.1 h;exact⟨k+1,hk,e⟩
   obtain⟨k,hk,e⟩:=tail.1 h;exact⟨k+1,hk,e⟩
  rintro⟨k,hk,e1,e2⟩
  cases k with
  |zero=>
   simp at e1 e2
   rw[e2]
   exact List.mem_cons.2 (.inl (by cases x;simp at e1 ⊢;exact e1))
  |succ k=>
   have:=tail.2 ⟨k,hk,e1,e2⟩
   split
   ·exact List.mem_cons_of_mem _ this
   exact this
theorem sN {s:gM}: ∀ {l:Cx} {i:Nat},(goFrom s i l).length≤l.length
 |[],i=>by simp[goFrom]
 |c::cs,i=>by
  have:=sN (s:=s) (l:=cs) (i:=i+1)
  unfold goFrom
  split<;>simp<;>omega
theorem going_pg {w:bz} (hn:10000000000001<n) (hs:Sml w): ∀ (m k:Nat),k≤w.an.length→w.an.length-k<m→goingL n w m k=some (goFrom w.bL k (w.an.drop k)):=by
 intro m
 induction m with
 |zero=>intro k _ h;omega
 |succ m ihm=>
  intro k hk hm
  have hc:=hs.ch
  unfold goingL
  by_cases h:k<w.an.length
  ·have ih:=ihm (k+1) (by omega) (by omega)
   rw[show(((k+1:Nat)):Int)=(k:Int)+1 by omega] at ih
   rw[dT (by omega),cT,bN h,bnd,List.drop_eq_getElem_cons h]
   unfold goFrom goO
   by_cases h4:w.an[k].aE=4
   ·rw[dT h4,nT,Vc.cF,bnd,Vc.cF,if_pos (.inl h4),own_pg hn hs.ow]
    unfold ownR
    cases ownV w.bL w.an[k].cA with
    |some o=>rw[bnd,bnd,cT,bK (by omega) (by omega),ih,bnd]
    |none=>rw[bnd,bnd,Vc.cF,bK (by omega) (by omega),ih]
   rw[dF h4,nF,cT,bnd]
   by_cases h3:w.an[k].aE=3
   ·rw[dT h3,nT,Vc.cF,if_pos (.inr h3),own_pg hn hs.ow]
    unfold ownR
    cases ownV w.bL w.an[k].cA with
    |some o=>rw[bnd,bnd,cT,bK (by omega) (by omega),ih,bnd]
    |none=>rw[bnd,bnd,Vc.cF,bK (by omega) (by omega),ih]
   rw[dF h3,nF,cT,if_neg (by omega),bK (by omega) (by omega),ih]
  rw[dF (by omega),Vc.cF,List.drop_eq_nil_of_le (by omega)];rfl
def goV (w:bz):List (Int×ib):=goFrom w.bL 0 w.an
theorem goV_pg {w:bz} (hn:10000000000001<n) (hs:Sml w) (ho:Okt w):goingV n w=some (goV w):=by
 have hc:=hs.ch
 unfold goingV
 rw[xK hn w hs ho,bnd,nT,Vc.cF]
 exact going_pg hn hs n 0 (by omega) (by omega)
def goesV (w:bz):CF:=((goV w).filter λx=> !x.2.cp).map (·.1)
def leftV (w:bz):CF:=((goV w).filter λx=>x.2.cp).map (·.1)
theorem AU {α β:Type} {Y:List β→α→Option (Lp (List β) Empty)} {p:α→Bool} {f:α→β} {B:Nat}: ∀ (xs:List α) (acc:List β),acc.length+xs.length≤B→(∀a x,a.length<B→Y a x=some (.nx (bif p x then a++[f x] else a)))→iw Y xs acc=some (.nx (acc++(xs.filter p).map f))
 |[],acc,_,_=>by simp[iw]
 |x::xs,acc,hl,h=>by
  simp only[List.length_cons] at hl
  unfold iw
  rw[h acc x (by omega)]
  simp only[Option.bind_some]
  rw[AU xs _ (by cases p x<;>simp<;>omega) h]
  cases e:p x<;>simp[List.filter_cons,e]
theorem goes_pg {w:bz} (hn:10000000000001<n) (hs:Sml w) (ho:Okt w):nU n w=some (goesV w):=by
 have hc:=hs.ch
 have hl: (goV w).length≤w.an.length:=sN
 unfold nU
 rw[goV_pg hn hs ho,bnd,AU (p:=λx:Int×ib=> !x.2.cp) (f:=(·.1)) (B:=3000000) _ _ (by simp;omega) λa x ha=>by
  unfold uh
  cases x.2.cp with
  |true=>rfl
  |false=>rw[nF,cT,cZ (by omega)];rfl]
 rfl
theorem lefts_pg {w:bz} (hs:Sml w):iw (mZ n) (goV w) ([]:CF)=some (.nx (leftV w)):=by
 have hc:=hs.ch
 have hl: (goV w).length≤w.an.length:=sN
 rw[AU (p:=λx:Int×ib=>x.2.cp) (f:=(·.1)) (B:=3000000) _ _ (by simp;omega) λa x ha=>by
  unfold mZ
  cases x.2.cp with
  |false=>rfl
  |true=>rw[cT,cZ (by omega)];rfl]
 rfl
theorem goes_mem {w:bz} {x:Int}:x∈goesV w↔ ∃k,∃h:k<w.an.length,x=k∧∃o,goO w.bL w.an[k]=some o∧o.cp=false:=by
 unfold goesV goV
 simp only[List.mem_map,List.mem_filter,AZ,Bool.not_eq_true',Prod.exists]
 constructor
 ·rintro⟨i,o,⟨⟨k,hk,e1,e2⟩,h⟩,rfl⟩;exact⟨k,hk,by simp at e1;exact e1,o,e2,h⟩
 rintro⟨k,hk,rfl,o,e2,h⟩;exact⟨k,o,⟨⟨k,hk,by simp,e2⟩,h⟩,rfl⟩
theorem parts_len {w:bz}: (goesV w).length+ (leftV w).length≤w.an.length:=by
 have hl: (goV w).length≤w.an.length:=sN
 have h: ∀l:List (Int×ib),((l.filter λx=> !x.2.cp).map (·.1)).length+ ((l.filter λx=>x.2.cp).map (·.1)).length=l.length:=λl=>by
  induction l with
  |nil=>rfl
  |cons x l ih=>
   simp only[List.length_map] at ih ⊢
   cases e:x.2.cp<;>simp[List.filter_cons,e]<;>omega
 have:=h (goV w)
 unfold goesV leftV
 omega
open Go.Ck
variable {n:Nat}
abbrev F9:=dp
theorem task_find {w:bz} {i p:Int} (hn:10000000000001<n) (ht:w.am.length≤10000000):Tot (jc n w i p) λr=>match w.am.find? (isT i p) with|some t=>r=(t,true)|none=>r.2=false:=by
 unfold jc lM
 refine Tot.b (Tot.b (Tot.m (R:=λb=>match b with|.inl y=>∃t,w.am.find? (isT i p)=some t∧y=t|.inr _=>w.am.find? (isT i p)=none) (Tot.lm w.am (λs:Int×F9=>s.1) (λt=>isT i p t=false) (λ_=>True) (by omega) rfl trivial (Q:=λb:Sum F9 F9=>match b with|.inl y=>∃t,w.am.find? (isT i p)=some t∧y=t|.inr _=>w.am.find? (isT i p)=none) λs h1 _ hm=>?_) λb hb=>?_))
 ·unfold gE km
  refine Tot.cd (λh2=>?_) λh2=>Tot.sb (List.find?_eq_none.2 λy hy=>by rw[cL h2 hm y hy];simp)
  obtain⟨t,he,hk⟩: ∃t,aq w.am s.1=some t∧(isT i p t=false→∀y∈w.am.take (s.1+1).toNat,isT i p y=false):=Tot.gm (Q:=λt=>isT i p t=false→∀y∈w.am.take (s.1+1).toNat,isT i p y=false) ⟨h1,h2⟩ λx hx ht h=>ht hm h
  refine Tot.b (Tot.ge he (Tot.b (Tot.m (R:=λb=>b=isT i p t) (Tot.cd (λh=>Tot.s (by simp[isT,h])) λh=>Tot.s (by simp[isT,h])) λb hb=>Tot.c (λh=>Tot.b (Tot.ge he (Tot.sb ⟨t,find_at he (by rw[←hb,h]) hm,rfl⟩))) λh=>Tot.i (by omega) (Tot.sn ⟨h2,rfl,hk (by rw[←hb,h]),trivial⟩))))
 cases b with
 |inl y=>
  obtain⟨t,ht,rfl⟩:=hb
  exact Tot.s (Tot.s (by rw[ht]))
 |inr y=>exact Tot.s (Tot.s (by dsimp only at hb;rw[hb]))
def tSL (w:bz) (i:Int):Int:=match w.am.find? (isT i 2) with|none=>1|some t=>if t.cg=0 then 2 else if t.cg=1 then 3 else 4
def st0 (w:bz):CF:=(List.range w.an.length).map λ (i:Nat)=>if (i:Int)∈goesV w then tSL w i else 0
theorem mj {w:bz}: (st0 w).length=w.an.length:=by simp[st0]
theorem BQ {w:bz} {i:Nat} (h:i<w.an.length): (st0 w).getD i 0=if (i:Int)∈goesV w then tSL w i else 0:=by simp[st0,List.getD,h]
def ownW (w:bz):bz:=⟨w.aE,w.cm,w.bL,w.gY,w.be,w.bH,w.an.map λc=>⟨c.cA,c.aE,c.bF,c.bm,c.cp,c.uU,c.bL,(ownR w.bL c.cA).1.bD⟩,w.am,w.aJ,w.bG⟩
theorem enumF_map {α β:Type} (g:α→β): ∀ (l:List α) (i:Int),enumF i (l.map g)=(enumF i l).map λp=>(p.1,g p.2)
 |[],_=>rfl
 |x::l,i=>by simp only[List.map_cons,enumF,enumF_map g l]
theorem backI_map {α β:Type} (g:α→β) (l:List α):backI (l.map g)=(backI l).map λp=>(p.1,g p.2):=by
 unfold backI;rw[enumF_map,List.map_reverse]
theorem foldY_map {σ α α' β:Type} {Y:σ→α→Option (Lp σ β)} {Y':σ→α'→Option (Lp σ β)} {h:α→α'} (hh: ∀s x,Y' s (h x)=Y s x): ∀ (l:List α) (s:σ),iw Y' (l.map h) s=iw Y l s
 |[],_=>rfl
 |x::l,s=>by
  simp only[List.map_cons,iw,hh]
  congr 1
  funext r
  cases r with
  |nx s'=>exact foldY_map hh l s'
  |br b=>rfl
theorem AX {α β:Type} (g:α→β) (l:List α) (i:Int):aq (l.map g) i=(aq l i).map g:=by
 unfold aq
 split
 ·rw[List.getElem?_map]
 rfl
theorem map_bind {α β γ:Type} (x:Option α) (g:α→β) (f:β→Option γ): (x.map g).bind f=x.bind λa=>f (g a):=by cases x<;>rfl
theorem leans_true {w:bz} (hn:10000000000001<n) (hs:Sml w):de n w true=de n (ownW w) false:=by
 unfold de
 have e1: (ownW w).an.length=w.an.length:=by simp[ownW]
 have e2:iw (jH n) (backI (ownW w).an) ([]:List (Bs×Int))=iw (jH n) (backI w.an) []:=by
  unfold ownW
  rw[backI_map]
  exact foldY_map (λs x=>rfl) _ _
 have e3: ∀s2,dW n (ownW w) false s2=dW n w true s2:=λs2=>by
  funext s3
  unfold dW
  rw[e1]
  unfold ownW
  dsimp only
  rw[AX,map_bind]
  simp only[eta_S,own_pg hn hs.ow,cond_true,cond_false,Option.bind_some]
 rw[e1,e2]
 simp only[e3]
theorem ownW_sml {w:bz} (hs:Sml w) (ho: ∀o∈w.bL.aV,o.bD.length≤60):Sml (ownW w):=⟨by simpa [ownW] using hs.ch,hs.tk,λc hc=>by
 obtain⟨d,_,rfl⟩:=List.mem_map.1 hc
 dsimp only
 unfold ownR
 cases e:ownV w.bL d.cA with
 |some o=>have:=ho o (List.mem_of_find?_eq_some e);dsimp only;omega
 |none=>decide,hs.ow,hs.pe,hs.re⟩
theorem leans_pg {w:bz} (hn:10000000000001<n) (hs:Sml w) (ho: ∀o∈w.bL.aV,o.bD.length≤60): ∃R,de n w true=some R∧LeansOf (ownW w).an R:=by
 have h:=ownW_sml hs ho
 rw[leans_true hn hs]
 exact leans_own hn (ownW w) h.ch h.ln
theorem st0_rng {w:bz} (i:Nat) (h:i<(st0 w).length):0≤(st0 w).getD i 0∧(st0 w).getD i 0≤4:=by
 rw[mj] at h
 rw[BQ h]
 unfold tSL
 split
 ·split
  ·simp
  split
  ·simp
  split<;>simp
 simp
theorem goes_rng {w:bz} {x:Int} (h:x∈goesV w):0≤x∧x<w.an.length:=by
 obtain⟨k,hk,rfl,_⟩:=goes_mem.1 h
 omega
theorem mget3 {x:Int} (h:0≤x∧x≤2): ((jf (kf (kf (kf ([]:List (Int×Int)) (0:Int) (2:Int)) (1:Int) (3:Int)) (2:Int) (4:Int)) x).getD (0:Int))=if x=0 then 2 else if x=1 then 3 else 4:=by
 have:x=0∨x=1∨x=2:=by omega
 rcases this with rfl|rfl|rfl<;>decide
theorem okt_state {w:bz} (ho:Okt w) {t:dp} (ht:t∈w.am):0≤t.cg∧t.cg≤2:=by
 obtain⟨k,hk,rfl⟩:=List.getElem_of_mem ht
 have:=ho.tk k hk
 omega
theorem states_pg {w:bz} (hn:10000000000001<n) (hs:Sml w) (ho:Okt w) (hl: ∀o∈w.bL.aV,o.bD.length≤60): ∃R,LeansOf (ownW w).an R∧R.length=w.an.length∧de n w true=some R∧mayB R (st0 w)=true∧dL n w=some (settledL (turnedL R) (st0 w)):=by
 obtain⟨R,hR,hL⟩:=leans_pg hn hs hl
 have hc:=hs.ch
 have hRl:R.length=w.an.length:=by rw[hL.len];simp[ownW]
 have hm:mayB R (st0 w)=true:=mayB_of (by rw[mj,hRl]) (λi hi=>by have:=st0_rng i hi;omega) (leans_in hL)
 have hG: (goesV w).length≤w.an.length:=by have:=parts_len (w:=w);omega
 refine⟨R,hL,hRl,hR,hm,?_⟩
 suffices h:Tot (dL n w) λr=>r=settledL (turnedL R) (st0 w) by
  obtain⟨r,h1,h2⟩:=h
  rw[h1,h2]
 unfold dL
 refine Tot.b (Tot.ge (xK hn w hs ho) (Tot.cn (Tot.ct ?_)))
 refine Tot.n (by omega) (Tot.b (Tot.ge (goes_pg hn hs ho) ?_))
 refine Tot.b (Tot.m (R:=λr=>r=st0 w) (Tot.li (λs=>s.2) (λs=>s.2≤(goesV w).length∧s.1.length=w.an.length∧∀i:Nat,i<w.an.length→s.1.getD i 0=if (i:Int)∈ (goesV w).take s.2.toNat then tSL w i else 0) (goesV w).length (by omega) ⟨by simp,by simp,by simp,λi hi=>by simp[List.getD,List.getElem?_replicate,hi]⟩ λs h1 ⟨h2,h3,h4⟩=>?_) λy hy=>?_)
 ·unfold ql
  refine Tot.cd (λh5=>Tot.b (Tot.gy ⟨h1,h5⟩ λx hx hxm=>?_)) λh5=>Tot.sb ?_
  ·have hr:=goes_rng hxm
   have e: (s.2+1).toNat=s.2.toNat+1:=by omega
   have key: ∀o:CF,o.length=w.an.length→(∀i:Nat,i<w.an.length→o.getD i 0=if (i:Int)=x then tSL w x else s.1.getD i 0)→∀i:Nat,i<w.an.length→o.getD i 0=if (i:Int)∈ (goesV w).take (s.2+1).toNat then tSL w i else 0:=λo _ h i hi=>by
    rw[h i hi,e,tk1 hx]
    by_cases e1: (i:Int)=x
    ·rw[if_pos e1,if_pos (List.mem_append.2 (.inr (by simp[e1]))),e1]
    rw[if_neg e1,h4 i hi]
    by_cases e2: (i:Int)∈ (goesV w).take s.2.toNat
    ·rw[if_pos e2,if_pos (List.mem_append_left _ e2)]
    rw[if_neg e2,if_neg λh=>(List.mem_append.1 h).elim e2 λh=>e1 (List.mem_singleton.1 h)]
   refine Tot.b (Tot.gy (by omega) λ_ _ _=>Tot.b ((task_find hn hs.tk).m λr hr'=>?_))
   cases e3:w.am.find? (isT x 2) with
   |some t=>
    rw[e3] at hr'
    dsimp only at hr'
    subst hr'
    have hst:=okt_state ho (List.mem_of_find?_eq_some e3)
    refine Tot.ct (Tot.b (Tot.gy (by simp;omega) λ_ _ _=>Tot.i (by omega) (Tot.sn ⟨h5,by dsimp only;omega,by dsimp only;omega,by simp[h3],key _ (by simp[h3]) λi hi=>?_⟩)))
    rw[vT (by simp;omega),vT (by omega),mget3 hst]
    by_cases e1: (i:Int)=x
    ·rw[if_pos (by omega),if_pos e1];unfold tSL;rw[e3]
    rw[if_neg (by omega),if_neg (by omega),if_neg e1]
   |none=>
    rw[e3] at hr'
    dsimp only at hr'
    rw[hr']
    refine Tot.cf (Tot.i (by omega) (Tot.sn ⟨h5,by dsimp only;omega,by dsimp only;omega,by simp[h3],key _ (by simp[h3]) λi hi=>?_⟩))
    rw[vT (by omega)]
    by_cases e1: (i:Int)=x
    ·rw[if_pos (by omega),if_pos e1];unfold tSL;rw[e3]
    rw[if_neg (by omega),if_neg e1]
  refine list_eq (by rw[h3,mj]) λi hi=>?_
  rw[h3] at hi
  rw[h4 i hi,BQ hi,List.take_of_length_le (by omega)]
 subst hy
 refine Tot.b (Tot.ge hR (Tot.b (Tot.ge (settle_eq R (st0 w) true (leans_sm hL (by simpa [ownW] using hc)) (by omega)) (Tot.s ?_))))
 rw[hm];rfl
theorem left1 {st:CF} (hn:10000000000001<n) (hl:st.length≤3000000):Tot (av (mY n st) n (([]:CF),(0:Int))) λr=>r.length≤st.length∧∀x:Int,x∈r↔ ∃i:Nat,x=i∧i<st.length∧blocksB (st.getD i 0)=true:=by
 refine Tot.li (λs=>s.2) (λs=>s.2≤st.length∧s.1.length≤s.2∧∀x:Int,x∈s.1↔ ∃i:Nat,x=i∧i<s.2.toNat∧blocksB (st.getD i 0)=true) st.length (by omega) ⟨by simp,by simp,by simp,λx=>by simp⟩ λs h1 ⟨h2,h3,h4⟩=>?_
 unfold mY
 have e: (s.2+1).toNat=s.2.toNat+1:=by omega
 refine Tot.cd (λh5=>?_) λh5=>Tot.sb ⟨by omega,λx=>by rw[h4 x];constructor<;>rintro⟨i,a,b,c⟩<;>exact⟨i,a,by omega,c⟩⟩
 have hg:aq st s.2=some (st.getD s.2.toNat 0):=by
  obtain⟨k,hk⟩:=Int.eq_ofNat_of_zero_le h1
  rw[hk]
  exact iy 0 (by omega)
 refine Tot.b (Tot.ge hg (Tot.b (Tot.m (R:=λb=>b=blocksB (st.getD s.2.toNat 0)) (Tot.cd (λh=>Tot.s (by unfold blocksB;rw[dT h,Bool.true_or])) λh=>Tot.s (by unfold blocksB;rw[dF h,Bool.false_or])) λb hb=>?_)))
 subst hb
 have step: ∀x:Int,(∃i:Nat,x=i∧i<s.2.toNat+1∧blocksB (st.getD i 0)=true)↔ (∃i:Nat,x=i∧i<s.2.toNat∧blocksB (st.getD i 0)=true)∨x=s.2∧blocksB (st.getD s.2.toNat 0)=true:=λx=>by
  constructor
  ·rintro⟨i,a,b,c⟩
   by_cases ei:i=s.2.toNat
   ·exact .inr ⟨by omega,ei▸c⟩
   exact .inl ⟨i,a,by omega,c⟩
  rintro(⟨i,a,b,c⟩|⟨a,c⟩)
  ·exact⟨i,a,by omega,c⟩
  exact⟨s.2.toNat,by omega,by omega,c⟩
 refine Tot.c (λh=>Tot.n (by omega) (Tot.i (by omega) (Tot.sn ⟨h5,by dsimp only;omega,by dsimp only;omega,by simp;omega,λx=>?_⟩))) λh=>Tot.i (by omega) (Tot.sn ⟨h5,by dsimp only;omega,by dsimp only;omega,by dsimp only;omega,λx=>?_⟩)
 ·dsimp only;rw[e,step x,List.mem_append,h4 x,List.mem_singleton,h];simp
 dsimp only;rw[e,step x,h4 x,h];simp
theorem left_pg {w:bz} (hn:10000000000001<n) (hs:Sml w) (ho:Okt w) {st:CF} (hst:dL n w=some st) (hl:st.length=w.an.length):Tot (eZ n w) λr=>(r.1.length≤st.length∧∀x:Int,x∈r.1↔ ∃i:Nat,x=i∧i<st.length∧blocksB (st.getD i 0)=true)∧r.2=leftV w:=by
 have hc:=hs.ch
 unfold eZ
 refine Tot.b (Tot.ge hst (Tot.b ((left1 hn (by omega)).m λl hl'=>Tot.b (Tot.ge (goV_pg hn hs ho) (Tot.b (Tot.ge (lefts_pg hs) (Tot.s ⟨hl',rfl⟩)))))))
variable {n:Nat}
def flyV (w:bz):CF:=(w.am.filter λt=>decide (t.cg=0)).map (·.cV.ie)
theorem zh {α:Type} {xs:List α} {p:α→Bool} {i:Int} {x:α} (h:aq xs i=some x): (xs.take (i.toNat+1)).filter p=(xs.take i.toNat).filter p++(bif p x then [x] else []):=by
 rw[tk1 h,List.filter_append]
 cases e:p x<;>simp[List.filter_cons,e]
theorem fly_pg {w:bz} (hn:10000000000001<n) (ht:w.am.length≤10000000):eE n w=some (flyV w):=by
 suffices h:Tot (eE n w) λr=>r=flyV w by
  obtain⟨r,h1,h2⟩:=h
  rw[h1,h2]
 unfold eE
 refine Tot.b (Tot.m (R:=λr=>r=flyV w) (Tot.li (λs=>s.2) (λs=>s.2≤w.am.length∧s.1.length≤s.2∧s.1=((w.am.take s.2.toNat).filter λt=>decide (t.cg=0)).map (·.cV.ie)) w.am.length (by omega) (by simp) λs h1 ⟨h2,h3,h4⟩=>?_) λr hr=>Tot.s hr)
 unfold qm
 have e: (s.2+1).toNat=s.2.toNat+1:=by omega
 refine Tot.cd (λh5=>Tot.b (Tot.gy ⟨h1,h5⟩ λt hte _=>Tot.cd (λh6=>Tot.n (by omega) (Tot.i (by omega) (Tot.sn ⟨h5,by dsimp only;omega,by dsimp only;omega,by simp;omega,?_⟩))) λh6=>Tot.i (by omega) (Tot.sn ⟨h5,by dsimp only;omega,by dsimp only;omega,by dsimp only;omega,?_⟩))) λh5=>Tot.sb ?_
 ·dsimp only;rw[e,zh hte,dT h6,h4];simp
 ·dsimp only;rw[e,zh hte,dF h6,h4];simp
 unfold flyV;rw[h4,List.take_of_length_le (by omega)]
theorem contains_pg {l:CF} {x:Int} (hn:10000000000001<n) (hl:l.length≤3000000):Tot (ef n l x) λb=>(b=true↔x∈l):=by
 unfold ef jx
 refine Tot.b (Tot.b (Tot.m (R:=λb=>match b with|.inl i=>0≤i∧x∈l|.inr _=>x∉l) (Tot.lm l (λs=>s) (λy=>y≠x) (λ_=>True) (by omega) rfl trivial (Q:=λb:Sum Int Unit=>match b with|.inl i=>0≤i∧x∈l|.inr _=>x∉l) λs h1 _ hm=>?_) λb hb=>?_))
 ·unfold kW
  exact Tot.cd (λh3=>Tot.b (Tot.gm ⟨h1,h3⟩ λy hy ht=>Tot.cd (λh=>Tot.sb ⟨h1,h▸hy⟩) λh=>Tot.i (by omega) (Tot.sn ⟨h3,rfl,ht hm λe=>h e.symm,trivial⟩))) λh3=>Tot.sb λh=>cL h3 hm x h rfl
 cases b with
 |inl i=>exact Tot.s (Tot.s (by simp[hb.1,hb.2]))
 |inr _=>exact Tot.s (Tot.s (by simp;exact hb))
theorem pick_mem {Q:CF→(Int→Bool)→Bool} {is:Int→Bool} {l:LL} {st:CF} {x:Int} (h:x∈sel (pickF Q is l st) st.length): ∃k:Nat,x=k∧k<st.length∧st.getD k 0=1:=by
 obtain⟨k,e,hk,hp⟩:=wm.1 h
 unfold pickF at hp
 simp only[Bool.and_eq_true,decide_eq_true_eq] at hp
 exact⟨k,e,hk,hp.1⟩
theorem backI_mem {α:Type} {l:List α} {p:Int×α} (h:p∈backI l): ∃k:Nat,∃h:k<l.length,p=((k:Int),l[k]):=by
 have hm: ∀ (l:List α) (i:Nat),p∈enumF (i:Int) l→∃k:Nat,∃h:k<l.length,p=(((i+k:Nat):Int),l[k]):=λl=>by
  induction l with
  |nil=>intro i h;cases h
  |cons x l ih=>
   intro i h
   rcases List.mem_cons.1 h with h|h
   ·exact⟨0,by simp,by simpa using h⟩
   obtain⟨k,hk,e⟩:=ih (i+1) (by simpa using h)
   exact⟨k+1,by simp;omega,by rw[e];simp;omega⟩
 obtain⟨k,hk,e⟩:=hm l 0 (by unfold backI at h;simpa using h)
 exact⟨k,hk,by simpa using e⟩
theorem fold_first {st:List (Int×Int)}: ∃r,iw (lu n) st ()=some r∧∀b,r=.br b→∃p∈st,p.2=1∧b=[p.1]:=by
 induction st with
 |nil=>exact⟨_,rfl,λb h=>by cases h⟩
 |cons p st ih=>
  unfold iw lu
  by_cases h:p.2=1
  ·rw[dT h]
   exact⟨_,rfl,λb e=>⟨p,by simp,h,by injection e with e;exact e.symm⟩⟩
  rw[dF h]
  obtain⟨r,h1,h2⟩:=ih
  exact⟨r,h1,λb e=>by obtain⟨q,hq,g⟩:=h2 b e;exact⟨q,List.mem_cons_of_mem _ hq,g⟩⟩
noncomputable def stV (w:bz) (R:LL):CF:=settledL (turnedL R) (st0 w)
theorem qT {w:bz} {R:LL}: (stV w R).length=w.an.length:=by unfold stV;rw[qQ,mj]
theorem stV_wait {w:bz} {R:LL} {k:Nat} (hk:k<w.an.length) (h: (stV w R).getD k 0=1): (st0 w).getD k 0=1:=by
 rcases qf (l:=turnedL R) (st:=st0 w) (i:=k) (by rw[mj];exact hk) with⟨_,_,e⟩|⟨_,e⟩
 ·unfold stV at h;rw[e] at h;cases h
 unfold stV at h;rw[e] at h;exact h
structure Wr (n:Nat) (w:bz) (R:LL):Prop where
 sm:Sml w
 ok:Okt w
 le: ∀o∈w.bL.aV,OwOK o
 L:LeansOf (ownW w).an R
 len:R.length=w.an.length
 lr:de n w true=some R
 may:mayB R (st0 w)=true
 st:dL n w=some (stV w R)
theorem Wr.mk' {w:bz} (hn:10000000000001<n) (hs:Sml w) (ho:Okt w) (hl: ∀o∈w.bL.aV,OwOK o): ∃R,Wr n w R:=by
 obtain⟨R,h1,h2,h3,h4,h5⟩:=states_pg hn hs ho λo h=>(hl o h).2.1
 exact⟨R,hs,ho,hl,h1,h2,h3,h4,h5⟩
def rdyV (w:bz) (R:LL) (st:CF):CF:=sel (pickF allQr letsB (turnedL R) st) st.length
theorem ready_pg {w:bz} {R:LL} (hn:10000000000001<n) (h:Wr n w R):Tot (cY n w) λr=>(r=[]∨w.aJ=2∧((flyV w).length:Int)<w.cm)∧r.length≤w.an.length∧∀x∈r,x∈rdyV w R (stV w R)∨(rdyV w R (stV w R)=[]∧flyV w=[]∧∃k:Nat,x=k∧k<w.an.length∧(stV w R).getD k 0=1):=by
 have hc:=h.sm.ch
 have hl:=qT (w:=w) (R:=R)
 have hm:mayB R (stV w R)=true:=settled_may h.may
 unfold cY
 refine Tot.b (Tot.ge h.st (Tot.b (Tot.ge (fly_pg hn h.sm.tk) (Tot.b (Tot.m (R:=λb=>b=false→w.aJ=2∧((flyV w).length:Int)<w.cm) (Tot.cn (Tot.cd (λh2=>Tot.s λh3=>⟨h2,by have:=of_decide_eq_false h3;omega⟩) λ_=>Tot.s (by simp))) λb hb=>Tot.c (λ_=>Tot.s ⟨.inl rfl,by simp,by simp⟩) λhf=>?_)))))
 have hpw:=hb hf
 have hrl: (rdyV w R (stV w R)).length≤w.an.length:=by rw[←hl];exact yu _ _
 refine Tot.b (Tot.ge h.lr (Tot.b (Tot.ge (ready_eq R (stV w R) true (leans_sm h.L (by simpa [ownW] using hc)) (by omega)) ?_)))
 have e:readyR R (stV w R) true=rdyV w R (stV w R):=by unfold readyR rdyL rdyV;rw[hm];rfl
 rw[e]
 have hbase: (rdyV w R (stV w R)=[]∨w.aJ=2∧((flyV w).length:Int)<w.cm)∧(rdyV w R (stV w R)).length≤w.an.length∧∀x∈rdyV w R (stV w R),x∈rdyV w R (stV w R)∨(rdyV w R (stV w R)=[]∧flyV w=[]∧∃k:Nat,x=k∧k<w.an.length∧(stV w R).getD k 0=1):=⟨.inr hpw,by omega,λx hx=>.inl hx⟩
 refine Tot.b (Tot.m (R:=λb=>b=true→rdyV w R (stV w R)=[]∧flyV w=[]) (Tot.cd (λh0=>Tot.s λh1=>⟨List.eq_nil_of_length_eq_zero (by dsimp only at h0;omega),List.eq_nil_of_length_eq_zero (by have:=of_decide_eq_true h1;omega)⟩) λ_=>Tot.s (by simp)) λb hb=>Tot.c (λhb2=>?_) λ_=>Tot.s hbase)
 obtain⟨q1,q2⟩:=hb hb2
 obtain⟨r,hr1,hr2⟩:=fold_first (n:=n) (st:=backI (stV w R))
 refine Tot.n (by omega) (Tot.b (Tot.ge hr1 ?_))
 cases r with
 |nx _=>exact Tot.s hbase
 |br b=>
  obtain⟨p,hp,hp1,rfl⟩:=hr2 b rfl
  obtain⟨k,hk,rfl⟩:=backI_mem hp
  refine Tot.s ⟨.inr hpw,by simp;omega,λx hx=>.inr ⟨q1,q2,k,List.mem_singleton.1 hx,by omega,?_⟩⟩
  rw[List.getD_eq_getElem?_getD,List.getElem?_eq_getElem hk]
  exact hp1
theorem ready_wait {w:bz} {R:LL} {x:Int} (h:x∈rdyV w R (stV w R)∨(rdyV w R (stV w R)=[]∧flyV w=[]∧∃k:Nat,x=k∧k<w.an.length∧(stV w R).getD k 0=1)): ∃k:Nat,∃h:k<w.an.length,x=k∧(k:Int)∈goesV w∧w.am.find? (isT k 2)=none:=by
 have: ∃k:Nat,x=k∧k<w.an.length∧(stV w R).getD k 0=1:=by
  rcases h with h|⟨_,_,h⟩
  ·obtain⟨k,e,hk,h1⟩:=pick_mem h
   exact⟨k,e,by rw[qT] at hk;exact hk,h1⟩
  exact h
 obtain⟨k,e,hk,h1⟩:=this
 have h0:=stV_wait hk h1
 rw[BQ hk] at h0
 refine⟨k,hk,e,?_⟩
 by_cases hg: (k:Int)∈goesV w
 ·rw[if_pos hg] at h0
  unfold tSL at h0
  cases hf:w.am.find? (isT k 2) with
  |none=>exact⟨hg,rfl⟩
  |some t=>
   rw[hf] at h0
   dsimp only at h0
   split at h0
   ·cases h0
   split at h0<;>cases h0
 rw[if_neg hg] at h0;cases h0
abbrev setT (w:bz) (ts:List dp):bz:=⟨w.aE,w.cm,w.bL,w.gY,w.be,w.bH,w.an,ts,w.aJ,w.bG⟩
abbrev setP (w:bz) (p s:Int):bz:=⟨w.aE,w.cm,w.bL,w.gY,w.be,w.bH,w.an,w.am,p,s⟩
def newT (w:bz) (i:Int) (p:Bs):dp:=⟨i,2,⟨(w.am.length:Int)+1,2,p,[],[]⟩,0,[]⟩
theorem start_pg {w:bz} {R:LL} {rd:CF} {k:Nat} (hn:10000000000001<n) (h:Wr n w R) (hp:w.aJ=2) (hr:cY n w=some rd) (hrl:rd.length≤3000000) (hi: (k:Int)∈rd) (hk:k<w.an.length):gZ n w k=some (setT w (w.am++[newT w k (ownR w.bL w.an[k].cA).1.bn]),⟨(w.am.length:Int)+1,2,(ownR w.bL w.an[k].cA).1.bn,[],[]⟩,0):=by
 have ht:=h.sm.tk
 suffices q:Tot (gZ n w k) λr=>r=(setT w (w.am++[newT w k (ownR w.bL w.an[k].cA).1.bn]),⟨(w.am.length:Int)+1,2,(ownR w.bL w.an[k].cA).1.bn,[],[]⟩,0) by
  obtain⟨r,h1,h2⟩:=q
  rw[h1,h2]
 unfold gZ
 refine Tot.b (Tot.m (R:=λr=>r=0) (Tot.b (Tot.ge (xK hn w h.sm h.ok) (Tot.cn (Tot.ct ?_)))) λy hy=>?_)
 ·rw[dT hp]
  refine Tot.cf (Tot.b (Tot.ge hr (Tot.b ((contains_pg hn hrl).m λb hb=>?_))))
  rw[hb.2 hi]
  exact Tot.cn (Tot.ct (Tot.s rfl))
 subst hy
 refine Tot.cf (Tot.b (Tot.m (R:=λo=>o=(ownR w.bL w.an[k].cA).1) (Tot.b (Tot.ge (bN hk) ?_)) λy hy=>?_))
 ·exact Tot.b (Tot.ge (own_pg hn h.sm.ow) (Tot.s rfl))
 subst hy
 have e:w.am.take (w.am.length:Int).toNat=w.am:=List.take_of_length_le (by simp)
 rw[e]
 exact Tot.i (by omega) (Tot.b (Tot.n (by omega) (Tot.n (by omega) (Tot.s (Tot.s rfl)))))
theorem Ar {i p:Int} {t:dp}:isT i p t=true↔t.aX=i∧t.aJ=p:=by unfold isT;simp
theorem start_ok {w:bz} {k:Nat} {p:Bs} (h:Okt w) (hk:k<w.an.length) (hf:w.am.find? (isT k 2)=none):Okt (setT w (w.am++[newT w k p])):=by
 refine⟨h.wd,h.ph,h.ck,λj hj=>?_,λi j hi hj hij=>?_,h.ah⟩
 ·simp only[List.length_append,List.length_singleton] at hj
  by_cases e:j<w.am.length
  ·simp only[List.getElem_append_left e];exact h.tk j e
  have:j=w.am.length:=by omega
  subst this
  simp only[List.getElem_concat_length]
  unfold newT
  dsimp only
  omega
 simp only[List.length_append,List.length_singleton] at hi hj
 by_cases e:j<w.am.length
 ·simp only[List.getElem_append_left e,List.getElem_append_left (show i<w.am.length by omega)]
  exact h.un i j (by omega) e hij
 have:j=w.am.length:=by omega
 subst this
 simp only[List.getElem_concat_length,List.getElem_append_left (show i<w.am.length by omega)]
 unfold newT
 dsimp only
 rintro⟨e1,e2⟩
 have:=List.find?_eq_none.1 hf _ (List.getElem_mem (show i<w.am.length by omega))
 exact this (Ar.2 ⟨e1,e2⟩)
def endTL (t:dp) (y:Bool):dp:=⟨t.aX,t.aJ,t.cV,bif y then 1 else 2,bif y then [] else t.bn⟩
theorem end_pg {w:bz} {k:Nat} {y:Bool} (hn:10000000000001<n) (hs:Sml w) (ho:Okt w) (hk:k<w.am.length) (h0:w.am[k].cg=0):jX n w ((k:Int)+1) ⟨true,y,[]⟩=some (setT w (w.am.set k (endTL w.am[k] y)),0):=by
 have ht:=hs.tk
 suffices q:Tot (jX n w ((k:Int)+1) ⟨true,y,[]⟩) λr=>r=(setT w (w.am.set k (endTL w.am[k] y)),0) by
  obtain⟨r,h1,h2⟩:=q
  rw[h1,h2]
 have e1: (k:Int)+1-1=k:=by omega
 unfold jX
 refine Tot.b (Tot.m (R:=λj=>j=.nx ()) (Tot.b (Tot.ge (xK hn w hs ho) (Tot.b (Tot.m (R:=λb=>b=false) (Tot.cn (Tot.ct (Tot.s rfl))) λb hb=>?_)))) λj hj=>?_)
 ·subst hb
  refine Tot.cf (Tot.b (Tot.ge (within1 (by omega) (by omega)) (Tot.cn (Tot.ct (Tot.i (by omega) ?_)))))
  rw[e1]
  refine Tot.b (Tot.ge (bN hk) ?_)
  rw[dT h0]
  exact Tot.cn (Tot.ct (Tot.s rfl))
 subst hj
 refine Tot.jn ?_
 unfold cy
 refine Tot.b (Tot.n (by omega) (Tot.s (Tot.i (by omega) ?_)))
 rw[e1]
 refine Tot.b (Tot.ge (bN hk) ?_)
 cases y with
 |true=>
  refine Tot.ct (Tot.s ?_)
  simp only[Int.toNat_natCast,List.set_set]
  rfl
 |false=>
  refine Tot.cf (Tot.s ?_)
  simp only[Int.toNat_natCast]
  rfl
theorem end_ok {w:bz} {k:Nat} {y:Bool} (h:Okt w) (hk:k<w.am.length):Okt (setT w (w.am.set k (endTL w.am[k] y))):=by
 have hf: ∀j (hj:j<(w.am.set k (endTL w.am[k] y)).length),∃hj':j<w.am.length,(w.am.set k (endTL w.am[k] y))[j].cV=w.am[j].cV∧(w.am.set k (endTL w.am[k] y))[j].aX=w.am[j].aX∧(w.am.set k (endTL w.am[k] y))[j].aJ=w.am[j].aJ∧0≤(w.am.set k (endTL w.am[k] y))[j].cg∧(w.am.set k (endTL w.am[k] y))[j].cg≤2:=λj hj=>by
  have hj':j<w.am.length:=by simpa using hj
  refine⟨hj',?_⟩
  rw[List.getElem_set]
  by_cases e:k=j
  ·subst e
   rw[if_pos rfl]
   unfold endTL
   cases y<;>simp
  rw[if_neg e]
  have:=h.tk j hj'
  exact⟨rfl,rfl,rfl,this.2.2.2.1,this.2.2.2.2.1⟩
 refine⟨h.wd,h.ph,h.ck,λj hj=>?_,λi j hi hj hij=>?_,h.ah⟩
 ·obtain⟨hj',a,b,c,d,e⟩:=hf j hj
  have:=h.tk j hj'
  dsimp only
  rw[a,b,c]
  exact⟨this.1,this.2.1,this.2.2.1,d,e,this.2.2.2.2.2⟩
 obtain⟨hi',_,b,c,_⟩:=hf i hi
 obtain⟨hj',_,b',c',_⟩:=hf j hj
 dsimp only
 rw[b,c,b',c']
 exact h.un i j hi' hj' hij
theorem blk_base {l:LL} {st:CF} {i:Nat} (h:Blk l st i): ∃k,k<st.length∧blocksB (st.getD k 0)=true:=by
 induction h with
 |base h1 h2=>exact⟨_,h1,h2⟩
 |step _ _ _ _ ih=>exact ih
theorem st0_blk {w:bz} {k:Nat} (hk:k<w.an.length):blocksB ((st0 w).getD k 0)=true↔ (st0 w).getD k 0=4:=by
 have:=st0_rng k (by rw[mj];exact hk)
 unfold blocksB
 simp only[Bool.or_eq_true,decide_eq_true_eq]
 omega
theorem left_some {w:bz} {R:LL} {l:CF×CF} (hn:10000000000001<n) (h:Wr n w R) (hl:eZ n w=some l): (l.1=[]↔ ∀k,k<w.an.length→(st0 w).getD k 0≠4)∧l.1.length≤w.an.length:=by
 obtain⟨l',e,⟨h1,h2⟩,_⟩:=left_pg hn h.sm h.ok h.st qT
 rw[hl] at e;injection e with e;subst e
 rw[qT] at h1
 refine⟨⟨λh0 k hk h4=>?_,λh0=>List.eq_nil_iff_forall_not_mem.2 λx hx=>?_⟩,h1⟩
 ·have: (k:Int)∈l.1:=(h2 k).2 ⟨k,rfl,by rw[qT];exact hk,(vP (by rw[mj];exact hk)).2 (.base (by rw[mj];exact hk) ((st0_blk hk).2 h4))⟩
  rw[h0] at this;cases this
 obtain⟨i,_,hi,hb⟩:=(h2 x).1 hx
 rw[qT] at hi
 obtain⟨k,hk,hkb⟩:=blk_base ((vP (by rw[mj];exact hi)).1 hb)
 rw[mj] at hk
 exact h0 k hk ((st0_blk hk).1 hkb)
theorem phase_ok {w:bz} {s:Int} (h:Okt w):Okt (setP w 3 s):=⟨h.wd,by simp,h.ck,h.tk,h.un,h.ah⟩
def AllOk (w:bz):Prop:=∀k,k<w.an.length→(st0 w).getD k 0≠4
theorem next_pg {w:bz} {R:LL} {rd:CF} (hn:10000000000001<n) (h:Wr n w R) (hp:w.aJ=2) (hr:cY n w=some rd) (hrl:rd.length≤3000001):Tot (iZ n w) λr=>(((flyV w).length+rd.length≠0)∧r=w)∨((flyV w).length=0∧∃s,r=setP w 3 s∧(w.aE≠2→s=2)∧(w.aE=2→AllOk w→s=5)∧(w.aE=2→¬AllOk w→s=6)):=by
 have hfl: (flyV w).length≤w.am.length:=by unfold flyV;rw[List.length_map];exact List.length_filter_le _ _
 have ht:=h.sm.tk
 have hc:=h.sm.ch
 unfold iZ
 refine Tot.b (Tot.m (R:=λb=>(b=true→(flyV w).length+rd.length≠0)∧(b=false→(flyV w).length=0)) (Tot.b (Tot.ge (xK hn w h.sm h.ok) (Tot.cn (Tot.ct ?_)))) λb hb=>Tot.c (λhb'=>Tot.s (.inl ⟨hb.1 hb',rfl⟩)) λhb'=>?_)
 ·rw[dT hp]
  refine Tot.cf (Tot.b (Tot.ge (fly_pg hn ht) (Tot.b (Tot.ge hr (Tot.i (by omega) (Tot.s ⟨λh=>?_,λh=>?_⟩))))))
  ·have:=of_decide_eq_true h;omega
  have:=of_decide_eq_false h;omega
 have h0:=hb.2 hb'
 obtain⟨R',h'⟩: ∃R',Wr n (setP w 3 w.bG) R':=Wr.mk' hn ⟨h.sm.ch,h.sm.tk,h.sm.ln,h.sm.ow,h.sm.pe,h.sm.re⟩ (phase_ok h.ok) h.le
 obtain⟨l,hl,_⟩:=left_pg hn h'.sm h'.ok h'.st qT
 have hl2:=left_some hn h' hl
 have hl':eZ n (setP w 3 w.bG)=some l:=hl
 refine Tot.b (Tot.ge hl' (Tot.cn (Tot.cd (λhk=>?_) λhk=>Tot.s (.inr ⟨h0,2,rfl,λ_=>rfl,λh=>(hk h).elim,λh=>(hk h).elim⟩))))
 refine Tot.cd (λe=>Tot.s (.inr ⟨h0,5,rfl,λh=>(h hk).elim,λ_ _=>rfl,λ_ hno=>?_⟩)) λe=>Tot.s (.inr ⟨h0,6,rfl,λh=>(h hk).elim,λ_ hyes=>?_,λ_ _=>rfl⟩)
 ·exact(hno (hl2.1.1 (List.eq_nil_of_length_eq_zero (by omega)))).elim
 exact(e (by rw[hl2.1.2 hyes];rfl)).elim
theorem nodup_le {l m:List Nat} (h:l.Nodup) (hs: ∀x∈l,x∈m):l.length≤m.length:=by
 induction l generalizing m with
 |nil=>simp
 |cons x l ih=>
  have hx:=hs x (by simp)
  have h1:=List.length_erase_of_mem hx
  have h0:=List.length_pos_of_mem hx
  have:=ih (m:=m.erase x) (List.nodup_cons.1 h).2 λy hy=>(List.mem_erase_of_ne (λ (e:y=x)=>(List.nodup_cons.1 h).1 (e▸hy))).2 (hs y (List.mem_cons_of_mem _ hy))
  simp only[List.length_cons]
  omega
theorem gone_le {w:bz} (h:Okt w):w.am.countP (λt=>decide (t.aJ=2))≤w.an.length:=by
 have hp:w.am.Pairwise λa b=>¬ (a.aX=b.aX∧a.aJ=b.aJ):=List.pairwise_iff_getElem.2 λi j hi hj hij=>h.un i j hi hj hij
 have hr: ∀t∈w.am,0≤t.aX∧t.aX<w.an.length:=λt ht=>by
  obtain⟨k,hk,rfl⟩:=List.getElem_of_mem ht
  exact⟨(h.tk k hk).2.1,(h.tk k hk).2.2.1⟩
 rw[List.countP_eq_length_filter]
 have hn: ((w.am.filter λt=>decide (t.aJ=2)).map λt=>t.aX.toNat).Nodup:=by
  refine List.pairwise_map.2 ((hp.filter _).imp_of_mem λ {a b} ha hb hab e=>?_)
  have ha':=List.mem_filter.1 ha
  have hb':=List.mem_filter.1 hb
  have h1:=hr a ha'.1
  have h2:=hr b hb'.1
  exact hab ⟨by omega,(of_decide_eq_true ha'.2).trans (of_decide_eq_true hb'.2).symm⟩
 have:=nodup_le hn (m:=List.range w.an.length) λx hx=>by
  obtain⟨t,ht,rfl⟩:=List.mem_map.1 hx
  have:=hr t (List.mem_filter.1 ht).1
  exact List.mem_range.2 (by omega)
 simpa using this
open Go.Ck
def mu (n:Nat) (d5:CG) (K1:Bool×Int×Int×bz):Option (Lp (Bool×Int×Int×bz) (Sum bz (Bool×bz))):=(ar (inR .i64 ((3:Int)* (K1.2.2.2.an.length:Int)))<|ar (inR .i64 (((3:Int)* (K1.2.2.2.an.length:Int))+3))<|bif decide (K1.2.2.1<(((3:Int)* (K1.2.2.2.an.length:Int))+3)) then some (decide (K1.2.2.2.aJ=2)) else some (false):Option Bool).bind λG2=>bif G2 then(cY n K1.2.2.2).bind λX5=>(eE n K1.2.2.2).bind λX7=>(bif decide ((0:Int)<(X5.length:Int)) then((aq X5 (0:Int)).bind λX9=>(gZ n K1.2.2.2 X9).bind λX11=>some (X11.1,X11.2.2):Option (bz×Int)).bind λG3=>bif !(decide (G3.2=0)) then(some (.br (.inl K1.2.2.2)):Option (Lp (Bool×Int×Int×bz) (Sum bz (Bool×bz)))).map Lp.br else some (.nx ((K1.1),K1.2.1,G3.1)) else bif decide ((0:Int)<(X7.length:Int)) then(bif decide ((d5.length:Int)=0) then some (true) else ar ((d5.length:Int)≠0)<|(aq d5 (K1.2.1.tmod (d5.length:Int))).bind λX13=>some (X13):Option Bool).bind λG4=>(bif K1.1 then some (true) else some (!G4):Option Bool).bind λG5=>ar (inR .i64 (K1.2.1+1))<|((aq X7 (0:Int)).bind λX15=>(jX n K1.2.2.2 X15 (⟨(true),(G4),([]:Bs)⟩:TD0)).bind λX17=>some (X17.1,X17.2):Option (bz×Int)).bind λG6=>bif !(decide (G6.2=0)) then(some (.br (.inl K1.2.2.2)):Option (Lp (Bool×Int×Int×bz) (Sum bz (Bool×bz)))).map Lp.br else some (.nx ((G5),K1.2.1+1,G6.1)) else some (.nx ((K1.1),K1.2.1,K1.2.2.2)):Option (Lp (Bool×Int×bz) (Lp (Bool×Int×Int×bz) (Sum bz (Bool×bz))))).bind λj=>joinF j λG7=>(iZ n G7.2.2).bind λX19=>ar (inR .i64 (K1.2.2.1+1))<|some (.nx ((G7.1),G7.2.1,K1.2.2.1+1,X19)) else some (.br (.inr ((K1.1),K1.2.2.2)))
def dS (n:Nat) (d0:Int) (d1:gM) (d2:cC) (d3:Cr) (d4:Int) (d5:CG):Option Bool:=(oT n d0 d1 d2 d3 d4).bind λX1=>(bif !X1.2 then some (true) else some (decide ((100:Int)<(d5.length:Int))):Option Bool).bind λG1=>bif G1 then(jY n).bind λX3=>some (X3) else(av (mu n d5) n ((false),(0:Int),(0:Int),X1.1)).bind λQ4=>(match Q4 with|.inl G8=>some (false)|.inr G9=>(eZ n G9.2).bind λX21=>(bif !(decide (G9.2.aJ=3)) then some (true) else some (!((decide ((0:Int)<(X21.1.length:Int)))==G9.1)):Option Bool).bind λG10=>bif G10 then some (false) else bif decide (d0=2) then(bif(decide (G9.2.bG=6))==G9.1 then bif(decide (G9.2.bG=5))== !G9.1 then(jY n).bind λX23=>some (X23) else some (false) else some (false):Option Bool).bind λG11=>some (G11) else bif decide (G9.2.bG=2) then(jY n).bind λX25=>some (X25) else some (false))
set_option maxRecDepth 20000 in
theorem ws (n:Nat) (d0:Int) (d1:gM) (d2:cC) (d3:Cr) (d4:Int) (d5:CG) (z:Zs):oK (eA.facts d1 z++bq.facts d2 (sh 5 z)++[sX 8 aj (z 9) d3]++[sX 1 Dat.bool (z 10) d5]) [] 4 [.int .i8 d0,eA.ag d1 z,bq.ag d2 (sh 5 z),wX (z 9) d3,.int .i64 d4,wX (z 10) d5] (dS n d0 d1 d2 d3 d4 d5) (λr y=>⟨.bool r,[],[]⟩):=
 fn 156 Tryz.func4 (ob (λ_ X2=>jn (.reg 2) [bx 11,bx 12,K 11 0,K 12 0,C (law27_work_C n d0 d1 d2 d3 d4) X2 [0,1,2,3,4,5,6,7,8,9] [] 13,al 23,Sn 23] (λG1 _ _=>{L:=[(43,.bool G1)],ks:=[0,5,13]}) (bs [] 39 (rt []) (rt [])) (kA λ_=>br [] (ob (λ_ X4=>rt [C (qW n) X4 [] [] 24])) (lp [] {is:=[13,14,15,16,17,18,19,20,21,22]} (λK1 z _=>{L:=[(15,.bool K1.1),(16,.int .i64 K1.2.1),(17,.int .i64 K1.2.2.1)],ks:=[0,5,13],o:=[(23,.cells (bk.cells K1.2.2.2 z).toArray 41 (0,0))],F:=nums 24 (bk.facts K1.2.2.2 z)}) (λx z b=>match x with|.inl G8=>{e:=.ret,L:=[(12,.bool false)],o:=[(23,.cells (bk.cells G8 z).toArray 41 (0,0))],F:=nums 82 (bk.facts G8 z)}|.inr G9=>{e:=.exit 0,L:=[(15,.bool G9.1)],ks:=[0,13],o:=[(23,.cells (bk.cells G9.2 z).toArray 41 (0,0))],F:=nums 82 (bk.facts G9.2 z)}) (λK1=>jn (.reg 6) [] (λG2 _ _=>{L:=[(56,.bool G2)],ks:=[0,5,13,15,16,17]}) (nd (λO1=>nd (λO2=>bs [O 23,wr 49 O1,wr 50 O2] 52 (rt [O 23]) (rt [])))) (kA λ_=>br [] (ob (λ_ X6=>ob (λ_ X8=>jb (.blk 2) [O 23,C (jJ n K1.2.2.2) X6 [24,25,26,27,28,29,30,31,32,33] [] 34,O 23,C (lx n K1.2.2.2) X8 [24,25,26,27,28,29,30,31,32,33] [] 35] (λG7 z _=>{L:=[(15,.bool G7.1),(16,.int .i64 G7.2.1)],ks:=[0,5,13,17],o:=[(23,.cells (bk.cells G7.2.2 z).toArray 41 (0,0))],F:=nums 62 (bk.facts G7.2.2 z)}) (br [] (jn (.reg 10) [] (λG3 z _=>{L:=[(20,.pointer (some (z 0).ad)),(22,.int .i64 G3.2)],ks:=[0,5,13,15,16,17],F:=[(51,.kn (z 0).ad (bk.cells G3.1 (sh 1 z)))]++nums 52 (bk.facts G3.1 (sh 1 z))}) (ob (λX9 X10=>ob (λ_ X12=>rt [Re 34 34 36 (tI .i64) X10,O 23,X 37,Rd 34 36 0,C (ui n K1.2.2.2 X9) X12 [24,25,26,27,28,29,30,31,32,33] [] 38,al 49,al 50,Sn 49,Sn 50,fz 49 51] {is:=[51,38,39,40,41,42,43,44,45,46,47]}))) (kA λ_=>br [] (esc [] (rt [] {is:=[24,25,26,27,28,29,30,31,32,33]})) (rt [K 51 0,Sn 23] {is:=[52,53,54,55,56,57,58,59,60,61]}))) (br [] (jn (.reg 15) [] (λG4 _ _=>{L:=[(23,.bool G4)],ks:=[0,5,13,15,16,17,19]}) (bs [] 86 (rt []) (nd (λO3=>ob (λ_ X14=>rt [rem O3,I 10 36 tB X14,K 36 0])))) (kA λG4=>jn (.reg 16) [] (λG5 _ _=>{L:=[(15,.bool G5)],ks:=[0,5,13,16,17,19,23]}) (bs [] 96 (rt []) (rt [])) (kA λ_=>nd (λO4=>jn (.reg 18) [wr 101 O4] (λG6 z _=>{L:=[(24,.pointer (some (z 0).ad)),(25,.int .i64 G6.2)],ks:=[0,5,13,15,16,17],F:=[(50,.kn (z 0).ad (bk.cells G6.1 (sh 1 z)))]++nums 51 (bk.facts G6.1 (sh 1 z))}) (ob (λX15 X16=>ob (λ_ X18=>rt [Re 35 35 37 (tI .i64) X16,O 23,X 38,Rd 35 37 0,C (wC n K1.2.2.2 X15 (⟨(true),(G4),([]:Bs)⟩:TD0)) X18 [24,25,26,27,28,29,30,31,32,33] [] 39,al 49,Sn 49,fz 49 50] {is:=[50,39,40,41,42,43,44,45,46,47,48]}))) (kA λ_=>br [] (esc [] (rt [] {is:=[24,25,26,27,28,29,30,31,32,33]})) (rt [K 50 0,Sn 23] {is:=[51,52,53,54,55,56,57,58,59,60]})))))) (rt [] {is:=[24,25,26,27,28,29,30,31,32,33]}))) (kA λG7=>ob (λ_ X20=>nd (λO5=>rt [O 23,C (uK n G7.2.2) X20 [62,63,64,65,66,67,68,69,70,71] [] 72,Sn 23,wr 58 O5] {is:=[72,73,74,75,76,77,78,79,80,81]})))))) (rt [] {is:=[24,25,26,27,28,29,30,31,32,33]}))) (kS (kA λ_=>rt []) (kA λG9=>ob (λ_ X22=>jn (.reg 24) [O 23,C (oO n G9.2) X22 [82,83,84,85,86,87,88,89,90,91] [] 92] (λG10 _ _=>{L:=[(131,.bool G10)],ks:=[0,13,15]}) (bs [O 23] 125 (rt []) (rt [])) (kA λ_=>br [] (rt []) (br [] (jn (.reg 27) [] (λG11 _ _=>{L:=[(12,.bool G11)]}) (bs [O 23] 139 (bs [O 23] 147 (ob (λ_ X24=>rt [C (qW n) X24 [] [] 94])) (rt [])) (rt [])) (kA λ_=>rt [])) (bs [O 23] 153 (ob (λ_ X26=>rt [C (qW n) X26 [] [] 94])) (rt [])))))))))))
variable {n:Nat}
structure Ev (s:gM) (kd:Int) (L:Nat) (w:bz):Prop where
 ok:Okt w
 sm:Sml w
 le: ∀o∈w.bL.aV,OwOK o
 od:w.bL=s
 kd:w.aE=kd
 lc:w.an.length=L
 pl: ∀t∈w.am,(t.aJ≠2→t.cg≠0)∧(t.aJ=2→t.aX∈goesV w)
 tl:w.am.length≤100+w.am.countP λt=>decide (t.aJ=2)
def Bad (w:bz):Prop:=∃t∈w.am,t.aJ=2∧t.cg=2
theorem same_task {w:bz} (h:Okt w) {a b:dp} (ha:a∈w.am) (hb:b∈w.am) (h1:a.aX=b.aX) (h2:a.aJ=b.aJ):a=b:=by
 obtain⟨i,hi,rfl⟩:=List.getElem_of_mem ha
 obtain⟨j,hj,rfl⟩:=List.getElem_of_mem hb
 by_cases e:i=j
 ·subst e;rfl
 by_cases l:i<j
 ·exact(h.un i j hi hj l ⟨h1,h2⟩).elim
 exact(h.un j i hj hi (by omega) ⟨h1.symm,h2.symm⟩).elim
theorem allok_iff {s:gM} {kd:Int} {L:Nat} {w:bz} (h:Ev s kd L w):AllOk w↔ ¬Bad w:=by
 constructor
 ·rintro ha ⟨t,ht,hp,hs⟩
  obtain⟨k,hk,e,_⟩:=goes_mem.1 ((h.pl t ht).2 hp)
  refine ha k hk ?_
  rw[BQ hk,if_pos (by rw[←e];exact(h.pl t ht).2 hp)]
  unfold tSL
  cases hf:w.am.find? (isT k 2) with
  |none=>exact(List.find?_eq_none.1 hf t ht (Ar.2 ⟨e,hp⟩)).elim
  |some t'=>
   have h1:=Ar.1 (List.find?_some hf)
   have:t'=t:=same_task h.ok (List.mem_of_find?_eq_some hf) ht (by rw[h1.1,e]) (by rw[h1.2,hp])
   subst this
   dsimp only
   rw[hs,if_neg (by omega),if_neg (by omega)]
 intro hb k hk h4
 rw[BQ hk] at h4
 split at h4
 ·unfold tSL at h4
  split at h4
  ·cases h4
  rename_i t hf
  have htm:=List.mem_of_find?_eq_some hf
  have:=okt_state h.ok htm
  have h1:=Ar.1 (List.find?_some hf)
  split at h4
  ·cases h4
  split at h4
  ·cases h4
  exact hb ⟨t,htm,h1.2,by omega⟩
 cases h4
theorem Ev.phase {s:gM} {kd p:Int} {L:Nat} {w:bz} (h:Ev s kd L w):Ev s kd L (setP w 3 p):=⟨phase_ok h.ok,⟨h.sm.ch,h.sm.tk,h.sm.ln,h.sm.ow,h.sm.pe,h.sm.re⟩,h.le,h.od,h.kd,h.lc,h.pl,h.tl⟩
theorem Ev.start {s:gM} {kd:Int} {L k:Nat} {w:bz} {p:Bs} (h:Ev s kd L w) (hk:k<w.an.length) (hg: (k:Int)∈goesV w) (hf:w.am.find? (isT k 2)=none):Ev s kd L (setT w (w.am++[newT w k p]))∧((Bad (setT w (w.am++[newT w k p])))↔Bad w)∧(flyV (setT w (w.am++[newT w k p]))).length=(flyV w).length+1∧(w.am++[newT w k p]).countP (λt=>decide (t.aJ=2))=w.am.countP (λt=>decide (t.aJ=2))+1:=by
 have hok:=start_ok (p:=p) h.ok hk hf
 have hcp: (w.am++[newT w k p]).countP (λt=>decide (t.aJ=2))=w.am.countP (λt=>decide (t.aJ=2))+1:=by
  rw[List.countP_append];simp[newT]
 have hle:=gone_le hok
 dsimp only at hle
 have hc:=h.sm.ch
 have htl:=h.tl
 refine⟨⟨hok,⟨h.sm.ch,by simp only[List.length_append,List.length_singleton];omega,h.sm.ln,h.sm.ow,h.sm.pe,h.sm.re⟩,h.le,h.od,h.kd,h.lc,λt ht=>?_,by rw[hcp];simp only[List.length_append,List.length_singleton];omega⟩,⟨?_,?_⟩,by unfold flyV;simp[newT,List.filter_append],hcp⟩
 ·rcases List.mem_append.1 ht with ht|ht
  ·exact h.pl t ht
  rw[List.mem_singleton.1 ht];exact⟨λe=>(e rfl).elim,λ_=>hg⟩
 ·rintro⟨t,ht,h1,h2⟩
  rcases List.mem_append.1 ht with ht|ht
  ·exact⟨t,ht,h1,h2⟩
  rw[List.mem_singleton.1 ht] at h2;cases h2
 rintro⟨t,ht,h1,h2⟩
 exact⟨t,List.mem_append_left _ ht,h1,h2⟩
theorem Ev.end_ {s:gM} {kd:Int} {L k:Nat} {w:bz} {y:Bool} (h:Ev s kd L w) (hk:k<w.am.length) (h0:w.am[k].cg=0):Ev s kd L (setT w (w.am.set k (endTL w.am[k] y)))∧((Bad (setT w (w.am.set k (endTL w.am[k] y))))↔ (Bad w∨y=false))∧(flyV (setT w (w.am.set k (endTL w.am[k] y)))).length+1=(flyV w).length∧(w.am.set k (endTL w.am[k] y)).countP (λt=>decide (t.aJ=2))=w.am.countP (λt=>decide (t.aJ=2)):=by
 have hok:=end_ok (y:=y) h.ok hk
 have hph:w.am[k].aJ=2:=by
  by_cases e:w.am[k].aJ=2
  ·exact e
  exact((h.pl _ (List.getElem_mem hk)).1 e h0).elim
 have hcp: (w.am.set k (endTL w.am[k] y)).countP (λt=>decide (t.aJ=2))=w.am.countP (λt=>decide (t.aJ=2)):=by
  rw[List.countP_set hk]
  have h1:0<w.am.countP (λt=>decide (t.aJ=2)):=List.countP_pos_iff.2 ⟨_,List.getElem_mem hk,by simp[hph]⟩
  simp only[endTL,hph,decide_true,if_true]
  omega
 have hfl: (flyV (setT w (w.am.set k (endTL w.am[k] y)))).length+1=(flyV w).length:=by
  unfold flyV
  simp only[List.length_map,←List.countP_eq_length_filter]
  rw[List.countP_set hk]
  have h1:0<w.am.countP (λt=>decide (t.cg=0)):=List.countP_pos_iff.2 ⟨_,List.getElem_mem hk,by simp[h0]⟩
  have h2:decide ((endTL w.am[k] y).cg=0)=false:=by cases y<;>rfl
  simp only[h0,h2,decide_true,if_true]
  simp
  omega
 have hmem: ∀t∈w.am.set k (endTL w.am[k] y),t∈w.am∨t=endTL w.am[k] y:=λt ht=>List.mem_or_eq_of_mem_set ht
 refine⟨⟨hok,⟨h.sm.ch,by rw[List.length_set];exact h.sm.tk,h.sm.ln,h.sm.ow,h.sm.pe,h.sm.re⟩,h.le,h.od,h.kd,h.lc,λt ht=>?_,by rw[hcp,List.length_set];exact h.tl⟩,⟨?_,?_⟩,hfl,hcp⟩
 ·rcases hmem t ht with ht|rfl
  ·exact h.pl t ht
  exact⟨λe=>(e hph).elim,λ_=>(h.pl _ (List.getElem_mem hk)).2 hph⟩
 ·rintro⟨t,ht,h1,h2⟩
  rcases hmem t ht with ht|rfl
  ·exact .inl ⟨t,ht,h1,h2⟩
  cases y with
  |true=>cases h2
  |false=>exact .inr rfl
 rintro(⟨t,ht,h1,h2⟩|rfl)
 ·obtain⟨i,hi,rfl⟩:=List.getElem_of_mem ht
  have e: ¬k=i:=λe=>by subst e;omega
  refine⟨w.am[i],?_,h1,h2⟩
  have: (w.am.set k (endTL w.am[k] y))[i]'(by simpa using hi)=w.am[i]:=by rw[List.getElem_set,if_neg e]
  rw[←this]
  exact List.getElem_mem _
 exact⟨endTL w.am[k] false,List.mem_set hk _,hph,rfl⟩
theorem fly_first {w:bz} {x:Int} (h:Okt w) (hx:aq (flyV w) 0=some x): ∃k,∃hk:k<w.am.length,x=(k:Int)+1∧w.am[k].cg=0:=by
 have hm:x∈flyV w:=List.mem_of_getElem? (dG hx).2.2
 unfold flyV at hm
 obtain⟨t,ht,rfl⟩:=List.mem_map.1 hm
 obtain⟨h1,h2⟩:=List.mem_filter.1 ht
 obtain⟨k,hk,rfl⟩:=List.getElem_of_mem h1
 exact⟨k,hk,(h.tk k hk).1,of_decide_eq_true h2⟩
def RI (s:gM) (kd:Int) (L:Nat) (u:Bool×Int×Int×bz):Prop:=0≤u.2.1∧u.2.1≤u.2.2.1∧Ev s kd L u.2.2.2∧(u.1=true↔Bad u.2.2.2)∧((u.2.2.2.aJ=2∧u.2.2.1+ (flyV u.2.2.2).length=2* (u.2.2.2.am.countP (λt=>decide (t.aJ=2)):Nat))∨(u.2.2.2.aJ=3∧u.2.2.1≤2*L+3∧(kd≠2→u.2.2.2.bG=2)∧(kd=2→¬Bad u.2.2.2→u.2.2.2.bG=5)∧(kd=2→Bad u.2.2.2→u.2.2.2.bG=6)))
theorem ends_law {k wd:Int} {s:gM} {t:cC} {gs:Cr} {bs:CG} (hN:10000000000000000000<n) (hs:dsz (eN s)≤2000000) (ht:dsz (aY t)≤2000000) (hg:zl gs≤2000000) (hbs:bs.length≤2000000) (hwk:jY n=some true):dS n k s t gs wd bs=some true:=by
 have hn:10000000000001<n:=by omega
 suffices h:Tot (dS n k s t gs wd bs) λr=>r=true by
  obtain⟨r,h1,h2⟩:=h
  rw[h1,h2]
 unfold dS
 refine Tot.b ((work27 hN hs ht hg).m λx hx=>Tot.b (Tot.m (R:=λb=>b=false→x.2=true) (Tot.cn (Tot.c (λh=>Tot.s λ_=>h) λ_=>Tot.s (by simp))) λb hb=>Tot.c (λ_=>Tot.b (Tot.ge hwk (Tot.s rfl))) λh=>?_))
 have hf:=hx (hb h)
 have hsm:=hf.sm.sml (Nat.le_refl _)
 have hc:=hsm.ch
 have hc0:x.1.am.countP (λt=>decide (t.aJ=2))=0:=List.countP_eq_zero.2 λt ht=>by rw[(hf.sm.tp t ht).2];decide
 have hfl0:flyV x.1=[]:=by
  unfold flyV
  rw[List.filter_eq_nil_iff.2 λt ht=>by have:=hf.ts t ht;simp[this]]
  rfl
 have hE0:Ev s k x.1.an.length x.1:=⟨hf.ok,hsm,hf.sm.od.2,hf.od,hf.kd,rfl,λt ht=>⟨λ_=>hf.ts t ht,λe=>by rw[(hf.sm.tp t ht).2] at e;cases e⟩,by have:=hf.sm.tl;omega⟩
 have hB0: ¬Bad x.1:=λ ⟨t,ht,h,_⟩=>by rw[(hf.sm.tp t ht).2] at h;cases h
 refine Tot.b (Tot.m (R:=λb=>match b with|.inl _=>False|.inr y=>∃kk j,RI s k x.1.an.length (y.1,j,kk,y.2)∧y.2.aJ=3) (Tot.l (RI s k x.1.an.length) (λu=>(3* (x.1.an.length:Int)+3-u.2.2.1).toNat) ⟨by simp,by simp,hE0,by simp[hB0],.inl ⟨hf.ph,by rw[hc0,hfl0];simp⟩⟩ (by dsimp only;omega) λu hu=>?_) λb hb=>?_)
 ·obtain⟨u1,u2,hE,hB,hph⟩:=hu
  have hlc:=hE.lc
  have hle:=gone_le hE.ok
  unfold mu
  rw[hlc]
  refine Tot.b (Tot.m (R:=λb=>(b=true→u.2.2.1<3* (x.1.an.length:Int)+3∧u.2.2.2.aJ=2)∧(b=false→u.2.2.2.aJ=3)) (Tot.i (by omega) (Tot.i (by omega) (Tot.cd (λh1=>Tot.s ⟨λh2=>⟨h1,of_decide_eq_true h2⟩,λh2=>?_⟩) λh1=>Tot.s ⟨by simp,λ_=>?_⟩))) λb hb=>Tot.c (λhb1=>?_) λhb1=>Tot.sb ⟨u.2.2.1,u.2.1,⟨u1,u2,hE,hB,hph⟩,hb.2 hb1⟩)
  ·rcases hph with⟨hp,_⟩|⟨hp,_⟩
   ·exact(of_decide_eq_false h2 hp).elim
   exact hp
  ·rcases hph with⟨hp,hk⟩|⟨hp,_⟩
   ·omega
   exact hp
  obtain⟨hlt,hp2⟩:=hb.1 hb1
  have hk:u.2.2.1+ (flyV u.2.2.2).length=2* (u.2.2.2.am.countP (λt=>decide (t.aJ=2)):Nat):=by
   rcases hph with⟨_,hk⟩|⟨hp,_⟩
   ·exact hk
   rw[hp2] at hp;cases hp
  obtain⟨R,hW⟩:=Wr.mk' hn hE.sm hE.ok hE.le
  obtain⟨rd,hrd,hrd1,hrd2,hrd3⟩:=ready_pg hn hW
  have nxt: ∀ (b:Bool) (j:Int) (w:bz),0≤j→j≤u.2.2.1+1→Ev s k x.1.an.length w→(b=true↔Bad w)→w.aJ=2→u.2.2.1+1+ (flyV w).length=2* (w.am.countP (λt=>decide (t.aJ=2)):Nat)∨((flyV w).length=0∧cY n w=some [])→Tot ((iZ n w).bind λy=>ar (inR .i64 (u.2.2.1+1)) (some (Lp.nx (b,j,u.2.2.1+1,y)):Option (Lp (Bool×Int×Int×bz) (Sum bz (Bool×bz))))) (LpP (λu'=>RI s k x.1.an.length u'∧(3* (x.1.an.length:Int)+3-u'.2.2.1).toNat<(3* (x.1.an.length:Int)+3-u.2.2.1).toNat) λb=>match b with|.inl _=>False|.inr y=>∃kk j,RI s k x.1.an.length (y.1,j,kk,y.2)∧y.2.aJ=3):=λb j w hj0 hj1 hEw hBw hpw hkw=>by
   obtain⟨R',hW'⟩:=Wr.mk' hn hEw.sm hEw.ok hEw.le
   obtain⟨rd',hr1,hr2,hr3,_⟩:=ready_pg hn hW'
   have hle':=gone_le hEw.ok
   have hlc':=hEw.lc
   have hAl:=allok_iff hEw
   have hkd:=hEw.kd
   have hcw:=hEw.sm.ch
   have hr4:rd'.length≤3000001:=by omega
   refine Tot.b ((next_pg hn hW' hpw hr1 hr4).m λy hy=>Tot.i ⟨by omega,by omega⟩ (Tot.sn ⟨?_,by dsimp only;omega⟩))
   rcases hy with⟨hy0,rfl⟩|⟨hy0,st,rfl,hs1,hs2,hs3⟩
   ·rcases hkw with hkw|⟨hkw1,hkw2⟩
    ·exact⟨hj0,hj1,hEw,hBw,.inl ⟨hpw,hkw⟩⟩
    rw[hr1] at hkw2;injection hkw2 with hkw2;subst hkw2;exact(hy0 (by rw[hkw1];rfl)).elim
   refine⟨hj0,hj1,hEw.phase,hBw,.inr ⟨rfl,?_,λh=>hs1 (by rw[hkd];exact h),λh hb=>hs2 (by rw[hkd];exact h) (hAl.2 hb),λh hb=>hs3 (by rw[hkd];exact h) λha=>hAl.1 ha hb⟩⟩
   dsimp only
   omega
  refine Tot.b (Tot.ge hrd (Tot.b (Tot.ge (fly_pg hn hE.sm.tk) ?_)))
  refine Tot.b (Tot.m (R:=λj=>∃b jj w,j=.nx (b,jj,w)∧0≤jj∧jj≤u.2.2.1+1∧Ev s k x.1.an.length w∧(b=true↔Bad w)∧w.aJ=2∧(u.2.2.1+1+ (flyV w).length=2* (w.am.countP (λt=>decide (t.aJ=2)):Nat)∨((flyV w).length=0∧cY n w=some []))) (Tot.cd (λhr0=>?_) λhr0=>Tot.cd (λhf0=>?_) λhf0=>?_) λj hj=>?_)
  ·obtain⟨i,hi,him⟩: ∃i,aq rd 0=some i∧i∈rd:=Tot.gy (Q:=λx=>x∈rd) (by omega) λ_ _ h=>h
   obtain⟨q,hq,rfl,hgo,hfi⟩:=ready_wait (hrd3 i him)
   obtain⟨e1,e2,e3,e4⟩:=hE.start (p:=(ownR u.2.2.2.bL u.2.2.2.an[q].cA).1.bn) hq hgo hfi
   have hst:=start_pg hn hW hp2 hrd (by omega) him hq
   refine Tot.b (Tot.m (R:=λr=>r=(setT u.2.2.2 (u.2.2.2.am++[newT u.2.2.2 q (ownR u.2.2.2.bL u.2.2.2.an[q].cA).1.bn]),0)) (Tot.b (Tot.ge hi (Tot.b (Tot.ge hst (Tot.s rfl))))) λr hr=>?_)
   subst hr
   exact Tot.cn (Tot.ct (Tot.s ⟨u.1,u.2.1,_,rfl,u1,by omega,e1,hB.trans e2.symm,hp2,.inl (by rw[e3];dsimp only;rw[e4];omega)⟩))
  ·obtain⟨tk,hi,_⟩: ∃i,aq (flyV u.2.2.2) 0=some i∧True:=Tot.gy (Q:=λ_=>True) (by omega) λ_ _ _=>trivial
   obtain⟨q,hq,rfl,h0⟩:=fly_first hE.ok hi
   refine Tot.b (Tot.m (R:=λ_=>True) (Tot.cd (λ_=>Tot.s trivial) λhb0=>?_) λy _=>?_)
   ·have hb1: (0:Int)<bs.length:=by omega
    have g1:=Int.emod_nonneg u.2.1 (show(bs.length:Int)≠0 by omega)
    have g2:=Int.emod_lt_of_pos u.2.1 hb1
    rw[Int.tmod_eq_emod_of_nonneg u1]
    exact Tot.n (by omega) (Tot.b (Tot.gy ⟨g1,g2⟩ λ_ _ _=>Tot.s trivial))
   obtain⟨e1,e2,e3,e4⟩:=hE.end_ (y:=y) hq h0
   have hen:=end_pg (y:=y) hn hE.sm hE.ok hq h0
   have hby:Tot (bif u.1 then some true else some (!y)) λb=>b=true↔ (Bad u.2.2.2∨y=false):=by
    cases e:u.1 with
    |true=>exact Tot.s (by simp[hB.1 e])
    |false=>
     have: ¬Bad u.2.2.2:=λhb=>by rw[hB.2 hb] at e;cases e
     exact Tot.s (by simp[this])
   refine Tot.b (hby.m λb5 hb5=>Tot.i (by omega) ?_)
   refine Tot.b (Tot.m (R:=λr=>r=(setT u.2.2.2 (u.2.2.2.am.set q (endTL u.2.2.2.am[q] y)),0)) (Tot.b (Tot.ge hi (Tot.b (Tot.ge hen (Tot.s rfl))))) λr hr=>?_)
   subst hr
   exact Tot.cn (Tot.ct (Tot.s ⟨b5,u.2.1+1,_,rfl,by omega,by omega,e1,hb5.trans e2.symm,hp2,.inl (by dsimp only at e4 ⊢;rw[e4];omega)⟩))
  ·exact Tot.s ⟨u.1,u.2.1,u.2.2.2,rfl,u1,by omega,hE,hB,hp2,.inr ⟨by omega,by rw[hrd];exact congrArg some (List.eq_nil_of_length_eq_zero (by omega))⟩⟩
  obtain⟨b,jj,w,rfl,j0,j1,hEw,hBw,hpw,hkw⟩:=hj
  exact Tot.jn (nxt b jj w j0 j1 hEw hBw hpw hkw)
 cases b with
 |inl _=>exact hb.elim
 |inr y=>
  obtain⟨kk,j,⟨_,_,hE,hB,hph⟩,hp3⟩:=hb
  dsimp only at hE hB hph
  have hst: (k≠2→y.2.bG=2)∧(k=2→¬Bad y.2→y.2.bG=5)∧(k=2→Bad y.2→y.2.bG=6):=by
   rcases hph with⟨hp,_⟩|⟨_,_,h⟩
   ·rw[hp3] at hp;cases hp
   exact h
  obtain⟨R,hW⟩:=Wr.mk' hn hE.sm hE.ok hE.le
  obtain⟨l,hl,_⟩:=left_pg hn hW.sm hW.ok hW.st qT
  have hl2:=(left_some hn hW hl).1
  have hAl:=allok_iff hE
  have hlb:decide ((0:Int)<(l.1.length:Int))=y.1:=by
   cases e:y.1 with
   |true=>
    refine dT ?_
    have:l.1≠ []:=λh=>hAl.1 (hl2.1 h) (hB.1 e)
    have:=List.length_pos_iff.2 this
    omega
   |false=>
    refine dF ?_
    have: ¬Bad y.2:=λh=>by rw[hB.2 h] at e;cases e
    have:=hl2.2 (hAl.2 this)
    rw[this];simp
  refine Tot.b (Tot.ge hl (Tot.b (Tot.m (R:=λb=>b=false) ?_ λb hb=>?_)))
  ·rw[dT hp3,hlb]
   exact Tot.cn (Tot.ct (Tot.s (by cases y.1<;>rfl)))
  subst hb
  refine Tot.cf (Tot.cd (λhk=>?_) λhk=>?_)
  ·cases e:y.1 with
   |true=>
    have h6:=hst.2.2 hk (hB.1 e)
    rw[h6]
    exact Tot.b (Tot.ct (Tot.ct (Tot.b (Tot.ge hwk (Tot.s (Tot.s rfl))))))
   |false=>
    have h5:=hst.2.1 hk λh=>by rw[hB.2 h] at e;cases e
    rw[h5]
    exact Tot.b (Tot.ct (Tot.ct (Tot.b (Tot.ge hwk (Tot.s (Tot.s rfl))))))
  rw[dT (hst.1 hk)]
  exact Tot.ct (Tot.b (Tot.ge hwk (Tot.s rfl)))
variable {n:Nat}
end Go.Proofs.YtkmbfmdhoeibhaaGreat
end
section
namespace Go.Proofs.YtkmbfmdhoeibhaaGreat
open Go Go.Vc Go.RowKit Go.Ck
def zRow (z1 z2:Zs) (zs:Zs):Zs:=λi=>if i<5 then z1 i else if i<9 then z2 (i-5) else zs (i-9)
theorem zRow_1 {z1 z2 zs:Zs} (d:gM):eA.cells d (zRow z1 z2 zs)=eA.cells d z1∧eA.facts d (zRow z1 z2 zs)=eA.facts d z1:=
 eA.loc λi hi=>by
  have hi:i<5:=hi
  simp[zRow,hi]
theorem zRow_2 {z1 z2 zs:Zs} (d:cC):bq.cells d (sh 5 (zRow z1 z2 zs))=bq.cells d z2∧bq.facts d (sh 5 (zRow z1 z2 zs))=bq.facts d z2:=
 bq.loc λi hi=>by
  have hi:i<4:=hi
  show zRow z1 z2 zs (i+5)=z2 i
  unfold zRow
  rw[if_neg (by omega),if_pos (by omega),Nat.add_sub_cancel]
end Go.Proofs.YtkmbfmdhoeibhaaGreat
end
section
namespace Go.Proofs.YtkmbfmdhoeibhaaGreat
open Go Go.Vc Go.RowKit
theorem wakes27:jY 100000000000000000000=some true:=by decide+kernel
theorem zl_of {l:Cr} (h:dsz (eL 8 aj l)≤1048576):zl l≤2000000:=by
 simp only[eL,dsz,zl,Sz.f] at*
 omega
end Go.Proofs.YtkmbfmdhoeibhaaGreat
end
section
namespace Go.Proofs.YtkmbfmdhoeibhaaGreat
open Go Go.Vc Go.RowKit Go.Ck
variable (n:Nat)
theorem uY (M:Mem) (d0:Int) (c1:Lv) (d1:gM) (h1:Rep M (eN d1) c1) (c2:Lv) (d2:cC) (h2:Rep M (aY d2) c2) (A3:Oa) (k3:Nat) (d3:Cr) (h3:Sli M 8 aj A3 k3 d3) (d4:Int) (A5:Oa) (k5:Nat) (d5:CG) (h5:Sli M 1 Dat.bool A5 k5 d5) (r:Bool) (hF:dS n d0 d1 d2 d3 d4 d5=some r):Ok Tryz.prog M 4 [iB d0,.agg c1.toArray,.agg c2.toArray,sL A3 d3 k3,iL d4,sL A5 d5 k5] (λ_ v=>v=bO r):=by
 obtain⟨z1,rfl,g1⟩:=eA.opn h1
 obtain⟨z2,rfl,g2⟩:=bq.opn h2
 have h:=ws n d0 d1 d2 d3 d4 d5 (zRow z1 z2 λi=>if i=0 then {A:=A3,c:=k3} else {A:=A5,c:=k5})
 unfold Ty.ag at h
 rw[(zRow_1 d1).1,(zRow_1 d1).2,(zRow_2 d2).1,(zRow_2 d2).2] at h
 exact OkC.back h (Fh.app (Fh.app (Fh.app g1 g2) (Fh.one h3)) (Fh.one h5)) hF
theorem ends27 (e0:Int) (e1:gM) (e2:cC) (e3:Cr) (e4:Int) (e5:CG) (h1:dsz (eN e1)≤1048576) (h2:dsz (aY e2)≤1048576) (h3:dsz (eL 8 aj e3)≤1048576) (h5:dsz (eL 1 Dat.bool e5)≤1048576):dS 100000000000000000000 e0 e1 e2 e3 e4 e5=some true:=
 ends_law (by omega) (by omega) (by omega) (zl_of h3) (by have:=xD (e5.map Dat.bool);simp only[eL,dsz,List.length_map] at*;omega) wakes27
end Go.Proofs.YtkmbfmdhoeibhaaGreat
end
section
namespace Go.Proofs.YtkmbfmdhoeibhaaGreat
open Go Go.Vc Go.RowKit
theorem opa_TJ0 {H:Type} {enc:TypeId×Value→H} {w:World} {B:DataW H→Nat} (hB:BulkOk B): ∀m,OpnAt enc Tryz.prog w 184 aw B m:=by
 intro m
 induction m using Nat.strongRecOn with
 |ind m ih=>
 intro cs x h
 obtain⟨xs,n,rfl,rfl,hlen,hxl,hf⟩:=DataW.trod_struct Tryz.underlying184 h
 have hct:Tryz.prog.cellsOf 184=6:=by kernel_rfl
 rw[hct] at hlen
 obtain⟨x0,x1,x2,x3,x4,x5,rfl⟩: ∃x0 x1 x2 x3 x4 x5,xs=[x0,x1,x2,x3,x4,x5]:=by
  match xs,hxl with
  |[x0,x1,x2,x3,x4,x5],_=>exact⟨x0,x1,x2,x3,x4,x5,rfl⟩
 have f0:DataW.trod enc Tryz.prog w 0 (λ_=>true) true n 22 ((cs.drop 0).take (Tryz.prog.cellsOf 22))=some x0:=hf 0 _ rfl
 rw[show Tryz.prog.cellsOf 22=1 by kernel_rfl] at f0
 obtain⟨a0,r0,v0,b0⟩:=(λ_=>sR hB Tryz.underlying22) n _ _ f0
 have f1:DataW.trod enc Tryz.prog w 0 (λ_=>true) true n 4 ((cs.drop 1).take (Tryz.prog.cellsOf 4))=some x1:=hf 1 _ rfl
 rw[show Tryz.prog.cellsOf 4=1 by kernel_rfl] at f1
 obtain⟨a1,r1,v1,b1⟩:=(λ_=>oU hB Tryz.underlying4) n _ _ f1
 have f2:DataW.trod enc Tryz.prog w 0 (λ_=>true) true n 3 ((cs.drop 2).take (Tryz.prog.cellsOf 3))=some x2:=hf 2 _ rfl
 rw[show Tryz.prog.cellsOf 3=1 by kernel_rfl] at f2
 obtain⟨a2,r2,v2,b2⟩:=(λ_=>sR hB Tryz.underlying3) n _ _ f2
 have f3:DataW.trod enc Tryz.prog w 0 (λ_=>true) true n 9 ((cs.drop 3).take (Tryz.prog.cellsOf 9))=some x3:=hf 3 _ rfl
 rw[show Tryz.prog.cellsOf 9=1 by kernel_rfl] at f3
 obtain⟨a3,r3,v3,b3⟩:=(λ_=>dU hB Tryz.underlying9) n _ _ f3
 have f4:DataW.trod enc Tryz.prog w 0 (λ_=>true) true n 182 ((cs.drop 4).take (Tryz.prog.cellsOf 182))=some x4:=hf 4 _ rfl
 rw[show Tryz.prog.cellsOf 182=1 by kernel_rfl] at f4
 obtain⟨a4,r4,v4,b4⟩:=(cq (m:=n) (e:=184) (sz:=6) hB Tryz.underlying182 kr (λk hk=>ih k (by omega))) _ _ f4
 have f5:DataW.trod enc Tryz.prog w 0 (λ_=>true) true n 58 ((cs.drop 5).take (Tryz.prog.cellsOf 58))=some x5:=hf 5 _ rfl
 rw[show Tryz.prog.cellsOf 58=1 by kernel_rfl] at f5
 obtain⟨a5,r5,v5,b5⟩:=(cq (m:=n) (e:=9) (sz:=1) hB Tryz.underlying58 kr (λk _=>(λ_=>dU hB Tryz.underlying9) k)) _ _ f5
 refine⟨⟨a0,a1,a2,a3,a4,a5⟩,?_,?_,?_⟩
 ·rw[bP]
  have hcs:au (Mem.of w) _ (cs.drop 0):=(au.cut (k:=1) r0 (by rw[List.drop_drop];exact(au.cut (k:=1) r1 (by rw[List.drop_drop];exact(au.cut (k:=1) r2 (by rw[List.drop_drop];exact(au.cut (k:=1) r3 (by rw[List.drop_drop];exact(au.cut (k:=1) r4 (by rw[List.drop_drop];exact(au.cut (k:=1) r5 (by rw[List.drop_drop];exact(show au (Mem.of w) [] (cs.drop 6) from List.drop_eq_nil_of_le (by omega))))))))))))))
  exact hcs
 ·rw[bP];exact⟨v0,⟨v1,⟨v2,⟨v3,⟨v4,⟨v5,trivial⟩⟩⟩⟩⟩⟩
 rw[bP]
 have:=hB.agg ([x0,x1,x2,x3,x4,x5].map (·.1))
 simp only[List.map_cons,List.map_nil,List.sum_cons,List.sum_nil] at this ⊢
 simp only[dsz,dszs] at*
 omega
theorem Av {H:Type} {enc:TypeId×Value→H} {w:World} {B:DataW H→Nat} (hB:BulkOk B): ∀m,OpnAt enc Tryz.prog w 176 aN B m:=by
 intro m
 induction m using Nat.strongRecOn with
 |ind m ih=>
 intro cs x h
 obtain⟨xs,n,rfl,rfl,hlen,hxl,hf⟩:=DataW.trod_struct Tryz.underlying176 h
 have hct:Tryz.prog.cellsOf 176=6:=by kernel_rfl
 rw[hct] at hlen
 obtain⟨x0,x1,x2,x3,x4,x5,rfl⟩: ∃x0 x1 x2 x3 x4 x5,xs=[x0,x1,x2,x3,x4,x5]:=by
  match xs,hxl with
  |[x0,x1,x2,x3,x4,x5],_=>exact⟨x0,x1,x2,x3,x4,x5,rfl⟩
 have f0:DataW.trod enc Tryz.prog w 0 (λ_=>true) true n 22 ((cs.drop 0).take (Tryz.prog.cellsOf 22))=some x0:=hf 0 _ rfl
 rw[show Tryz.prog.cellsOf 22=1 by kernel_rfl] at f0
 obtain⟨a0,r0,v0,b0⟩:=(λ_=>sR hB Tryz.underlying22) n _ _ f0
 have f1:DataW.trod enc Tryz.prog w 0 (λ_=>true) true n 9 ((cs.drop 1).take (Tryz.prog.cellsOf 9))=some x1:=hf 1 _ rfl
 rw[show Tryz.prog.cellsOf 9=1 by kernel_rfl] at f1
 obtain⟨a1,r1,v1,b1⟩:=(λ_=>dU hB Tryz.underlying9) n _ _ f1
 have f2:DataW.trod enc Tryz.prog w 0 (λ_=>true) true n 3 ((cs.drop 2).take (Tryz.prog.cellsOf 3))=some x2:=hf 2 _ rfl
 rw[show Tryz.prog.cellsOf 3=1 by kernel_rfl] at f2
 obtain⟨a2,r2,v2,b2⟩:=(λ_=>sR hB Tryz.underlying3) n _ _ f2
 have f3:DataW.trod enc Tryz.prog w 0 (λ_=>true) true n 9 ((cs.drop 3).take (Tryz.prog.cellsOf 9))=some x3:=hf 3 _ rfl
 rw[show Tryz.prog.cellsOf 9=1 by kernel_rfl] at f3
 obtain⟨a3,r3,v3,b3⟩:=(λ_=>dU hB Tryz.underlying9) n _ _ f3
 have f4:DataW.trod enc Tryz.prog w 0 (λ_=>true) true n 9 ((cs.drop 4).take (Tryz.prog.cellsOf 9))=some x4:=hf 4 _ rfl
 rw[show Tryz.prog.cellsOf 9=1 by kernel_rfl] at f4
 obtain⟨a4,r4,v4,b4⟩:=(λ_=>dU hB Tryz.underlying9) n _ _ f4
 have f5:DataW.trod enc Tryz.prog w 0 (λ_=>true) true n 174 ((cs.drop 5).take (Tryz.prog.cellsOf 174))=some x5:=hf 5 _ rfl
 rw[show Tryz.prog.cellsOf 174=1 by kernel_rfl] at f5
 obtain⟨a5,r5,v5,b5⟩:=(cq (m:=n) (e:=176) (sz:=6) hB Tryz.underlying174 kr (λk hk=>ih k (by omega))) _ _ f5
 refine⟨⟨a0,a1,a2,a3,a4,a5⟩,?_,?_,?_⟩
 ·rw[bJ]
  have hcs:au (Mem.of w) _ (cs.drop 0):=(au.cut (k:=1) r0 (by rw[List.drop_drop];exact(au.cut (k:=1) r1 (by rw[List.drop_drop];exact(au.cut (k:=1) r2 (by rw[List.drop_drop];exact(au.cut (k:=1) r3 (by rw[List.drop_drop];exact(au.cut (k:=1) r4 (by rw[List.drop_drop];exact(au.cut (k:=1) r5 (by rw[List.drop_drop];exact(show au (Mem.of w) [] (cs.drop 6) from List.drop_eq_nil_of_le (by omega))))))))))))))
  exact hcs
 ·rw[bJ];exact⟨v0,⟨v1,⟨v2,⟨v3,⟨v4,⟨v5,trivial⟩⟩⟩⟩⟩⟩
 rw[bJ]
 have:=hB.agg ([x0,x1,x2,x3,x4,x5].map (·.1))
 simp only[List.map_cons,List.map_nil,List.sum_cons,List.sum_nil] at this ⊢
 simp only[dsz,dszs] at*
 omega
theorem opa_TL0 {H:Type} {enc:TypeId×Value→H} {w:World} {B:DataW H→Nat} (hB:BulkOk B): ∀m,OpnAt enc Tryz.prog w 245 gC B m:=by
 intro m
 induction m using Nat.strongRecOn with
 |ind m ih=>
 intro cs x h
 obtain⟨xs,n,rfl,rfl,hlen,hxl,hf⟩:=DataW.trod_struct Tryz.underlying245 h
 have hct:Tryz.prog.cellsOf 245=10:=by kernel_rfl
 rw[hct] at hlen
 obtain⟨x0,x1,x2,x3,x4,rfl⟩: ∃x0 x1 x2 x3 x4,xs=[x0,x1,x2,x3,x4]:=by
  match xs,hxl with
  |[x0,x1,x2,x3,x4],_=>exact⟨x0,x1,x2,x3,x4,rfl⟩
 have f0:DataW.trod enc Tryz.prog w 0 (λ_=>true) true n 9 ((cs.drop 0).take (Tryz.prog.cellsOf 9))=some x0:=hf 0 _ rfl
 rw[show Tryz.prog.cellsOf 9=1 by kernel_rfl] at f0
 obtain⟨a0,r0,v0,b0⟩:=(λ_=>dU hB Tryz.underlying9) n _ _ f0
 have f1:DataW.trod enc Tryz.prog w 0 (λ_=>true) true n 4 ((cs.drop 1).take (Tryz.prog.cellsOf 4))=some x1:=hf 1 _ rfl
 rw[show Tryz.prog.cellsOf 4=1 by kernel_rfl] at f1
 obtain⟨a1,r1,v1,b1⟩:=(λ_=>oU hB Tryz.underlying4) n _ _ f1
 have f2:DataW.trod enc Tryz.prog w 0 (λ_=>true) true n 4 ((cs.drop 2).take (Tryz.prog.cellsOf 4))=some x2:=hf 2 _ rfl
 rw[show Tryz.prog.cellsOf 4=1 by kernel_rfl] at f2
 obtain⟨a2,r2,v2,b2⟩:=(λ_=>oU hB Tryz.underlying4) n _ _ f2
 have f3:DataW.trod enc Tryz.prog w 0 (λ_=>true) true n 184 ((cs.drop 3).take (Tryz.prog.cellsOf 184))=some x3:=hf 3 _ rfl
 rw[show Tryz.prog.cellsOf 184=6 by kernel_rfl] at f3
 obtain⟨a3,r3,v3,b3⟩:=(opa_TJ0 hB) n _ _ f3
 have f4:DataW.trod enc Tryz.prog w 0 (λ_=>true) true n 182 ((cs.drop 9).take (Tryz.prog.cellsOf 182))=some x4:=hf 4 _ rfl
 rw[show Tryz.prog.cellsOf 182=1 by kernel_rfl] at f4
 obtain⟨a4,r4,v4,b4⟩:=(λm=>cq (e:=184) (sz:=6) hB Tryz.underlying182 kr (λk _=>(opa_TJ0 hB) k)) n _ _ f4
 refine⟨⟨a0,a1,a2,a3,a4⟩,?_,?_,?_⟩
 ·rw[jN]
  have hcs:au (Mem.of w) _ (cs.drop 0):=(au.cut (k:=1) r0 (by rw[List.drop_drop];exact(au.cut (k:=1) r1 (by rw[List.drop_drop];exact(au.cut (k:=1) r2 (by rw[List.drop_drop];exact(au.cut (k:=6) r3 (by rw[List.drop_drop];exact(au.cut (k:=1) r4 (by rw[List.drop_drop];exact(show au (Mem.of w) [] (cs.drop 10) from List.drop_eq_nil_of_le (by omega))))))))))))
  exact hcs
 ·rw[jN];exact⟨v0,⟨v1,⟨v2,⟨v3,⟨v4,trivial⟩⟩⟩⟩⟩
 rw[jN]
 have:=hB.agg ([x0,x1,x2,x3,x4].map (·.1))
 simp only[List.map_cons,List.map_nil,List.sum_cons,List.sum_nil] at this ⊢
 simp only[dsz,dszs] at*
 omega
theorem opa_TM0 {H:Type} {enc:TypeId×Value→H} {w:World} {B:DataW H→Nat} (hB:BulkOk B): ∀m,OpnAt enc Tryz.prog w 191 bb B m:=by
 intro m
 induction m using Nat.strongRecOn with
 |ind m ih=>
 intro cs x h
 obtain⟨xs,n,rfl,rfl,hlen,hxl,hf⟩:=DataW.trod_struct Tryz.underlying191 h
 have hct:Tryz.prog.cellsOf 191=15:=by kernel_rfl
 rw[hct] at hlen
 obtain⟨x0,x1,x2,x3,x4,rfl⟩: ∃x0 x1 x2 x3 x4,xs=[x0,x1,x2,x3,x4]:=by
  match xs,hxl with
  |[x0,x1,x2,x3,x4],_=>exact⟨x0,x1,x2,x3,x4,rfl⟩
 have f0:DataW.trod enc Tryz.prog w 0 (λ_=>true) true n 9 ((cs.drop 0).take (Tryz.prog.cellsOf 9))=some x0:=hf 0 _ rfl
 rw[show Tryz.prog.cellsOf 9=1 by kernel_rfl] at f0
 obtain⟨a0,r0,v0,b0⟩:=(λ_=>dU hB Tryz.underlying9) n _ _ f0
 have f1:DataW.trod enc Tryz.prog w 0 (λ_=>true) true n 22 ((cs.drop 1).take (Tryz.prog.cellsOf 22))=some x1:=hf 1 _ rfl
 rw[show Tryz.prog.cellsOf 22=1 by kernel_rfl] at f1
 obtain⟨a1,r1,v1,b1⟩:=(λ_=>sR hB Tryz.underlying22) n _ _ f1
 have f2:DataW.trod enc Tryz.prog w 0 (λ_=>true) true n 176 ((cs.drop 2).take (Tryz.prog.cellsOf 176))=some x2:=hf 2 _ rfl
 rw[show Tryz.prog.cellsOf 176=6 by kernel_rfl] at f2
 obtain⟨a2,r2,v2,b2⟩:=(Av hB) n _ _ f2
 have f3:DataW.trod enc Tryz.prog w 0 (λ_=>true) true n 176 ((cs.drop 8).take (Tryz.prog.cellsOf 176))=some x3:=hf 3 _ rfl
 rw[show Tryz.prog.cellsOf 176=6 by kernel_rfl] at f3
 obtain⟨a3,r3,v3,b3⟩:=(Av hB) n _ _ f3
 have f4:DataW.trod enc Tryz.prog w 0 (λ_=>true) true n 28 ((cs.drop 14).take (Tryz.prog.cellsOf 28))=some x4:=hf 4 _ rfl
 rw[show Tryz.prog.cellsOf 28=1 by kernel_rfl] at f4
 obtain⟨a4,r4,v4,b4⟩:=(cq (m:=n) (e:=191) (sz:=15) hB Tryz.underlying28 kr (λk hk=>ih k (by omega))) _ _ f4
 refine⟨⟨a0,a1,a2,a3,a4⟩,?_,?_,?_⟩
 ·rw[iF]
  have hcs:au (Mem.of w) _ (cs.drop 0):=(au.cut (k:=1) r0 (by rw[List.drop_drop];exact(au.cut (k:=1) r1 (by rw[List.drop_drop];exact(au.cut (k:=6) r2 (by rw[List.drop_drop];exact(au.cut (k:=6) r3 (by rw[List.drop_drop];exact(au.cut (k:=1) r4 (by rw[List.drop_drop];exact(show au (Mem.of w) [] (cs.drop 15) from List.drop_eq_nil_of_le (by omega))))))))))))
  exact hcs
 ·rw[iF];exact⟨v0,⟨v1,⟨v2,⟨v3,⟨v4,trivial⟩⟩⟩⟩⟩
 rw[iF]
 have:=hB.agg ([x0,x1,x2,x3,x4].map (·.1))
 simp only[List.map_cons,List.map_nil,List.sum_cons,List.sum_nil] at this ⊢
 simp only[dsz,dszs] at*
 omega
theorem opa_TR0 {H:Type} {enc:TypeId×Value→H} {w:World} {B:DataW H→Nat} (hB:BulkOk B): ∀m,OpnAt enc Tryz.prog w 178 dJ B m:=by
 intro m
 induction m using Nat.strongRecOn with
 |ind m ih=>
 intro cs x h
 obtain⟨xs,n,rfl,rfl,hlen,hxl,hf⟩:=DataW.trod_struct Tryz.underlying178 h
 have hct:Tryz.prog.cellsOf 178=7:=by kernel_rfl
 rw[hct] at hlen
 obtain⟨x0,x1,rfl⟩: ∃x0 x1,xs=[x0,x1]:=by
  match xs,hxl with
  |[x0,x1],_=>exact⟨x0,x1,rfl⟩
 have f0:DataW.trod enc Tryz.prog w 0 (λ_=>true) true n 9 ((cs.drop 0).take (Tryz.prog.cellsOf 9))=some x0:=hf 0 _ rfl
 rw[show Tryz.prog.cellsOf 9=1 by kernel_rfl] at f0
 obtain⟨a0,r0,v0,b0⟩:=(λ_=>dU hB Tryz.underlying9) n _ _ f0
 have f1:DataW.trod enc Tryz.prog w 0 (λ_=>true) true n 176 ((cs.drop 1).take (Tryz.prog.cellsOf 176))=some x1:=hf 1 _ rfl
 rw[show Tryz.prog.cellsOf 176=6 by kernel_rfl] at f1
 obtain⟨a1,r1,v1,b1⟩:=(Av hB) n _ _ f1
 refine⟨⟨a0,a1⟩,?_,?_,?_⟩
 ·rw[iG]
  have hcs:au (Mem.of w) _ (cs.drop 0):=(au.cut (k:=1) r0 (by rw[List.drop_drop];exact(au.cut (k:=6) r1 (by rw[List.drop_drop];exact(show au (Mem.of w) [] (cs.drop 7) from List.drop_eq_nil_of_le (by omega))))))
  exact hcs
 ·rw[iG];exact⟨v0,⟨v1,trivial⟩⟩
 rw[iG]
 have:=hB.agg ([x0,x1].map (·.1))
 simp only[List.map_cons,List.map_nil,List.sum_cons,List.sum_nil] at this ⊢
 simp only[dsz,dszs] at*
 omega
theorem opa_TE0 {H:Type} {enc:TypeId×Value→H} {w:World} {B:DataW H→Nat} (hB:BulkOk B): ∀m,OpnAt enc Tryz.prog w 181 ja B m:=by
 intro m
 induction m using Nat.strongRecOn with
 |ind m ih=>
 intro cs x h
 obtain⟨xs,n,rfl,rfl,hlen,hxl,hf⟩:=DataW.trod_struct Tryz.underlying181 h
 have hct:Tryz.prog.cellsOf 181=8:=by kernel_rfl
 rw[hct] at hlen
 obtain⟨x0,x1,x2,rfl⟩: ∃x0 x1 x2,xs=[x0,x1,x2]:=by
  match xs,hxl with
  |[x0,x1,x2],_=>exact⟨x0,x1,x2,rfl⟩
 have f0:DataW.trod enc Tryz.prog w 0 (λ_=>true) true n 9 ((cs.drop 0).take (Tryz.prog.cellsOf 9))=some x0:=hf 0 _ rfl
 rw[show Tryz.prog.cellsOf 9=1 by kernel_rfl] at f0
 obtain⟨a0,r0,v0,b0⟩:=(λ_=>dU hB Tryz.underlying9) n _ _ f0
 have f1:DataW.trod enc Tryz.prog w 0 (λ_=>true) true n 9 ((cs.drop 1).take (Tryz.prog.cellsOf 9))=some x1:=hf 1 _ rfl
 rw[show Tryz.prog.cellsOf 9=1 by kernel_rfl] at f1
 obtain⟨a1,r1,v1,b1⟩:=(λ_=>dU hB Tryz.underlying9) n _ _ f1
 have f2:DataW.trod enc Tryz.prog w 0 (λ_=>true) true n 176 ((cs.drop 2).take (Tryz.prog.cellsOf 176))=some x2:=hf 2 _ rfl
 rw[show Tryz.prog.cellsOf 176=6 by kernel_rfl] at f2
 obtain⟨a2,r2,v2,b2⟩:=(Av hB) n _ _ f2
 refine⟨⟨a0,a1,a2⟩,?_,?_,?_⟩
 ·rw[jM]
  have hcs:au (Mem.of w) _ (cs.drop 0):=(au.cut (k:=1) r0 (by rw[List.drop_drop];exact(au.cut (k:=1) r1 (by rw[List.drop_drop];exact(au.cut (k:=6) r2 (by rw[List.drop_drop];exact(show au (Mem.of w) [] (cs.drop 8) from List.drop_eq_nil_of_le (by omega))))))))
  exact hcs
 ·rw[jM];exact⟨v0,⟨v1,⟨v2,trivial⟩⟩⟩
 rw[jM]
 have:=hB.agg ([x0,x1,x2].map (·.1))
 simp only[List.map_cons,List.map_nil,List.sum_cons,List.sum_nil] at this ⊢
 simp only[dsz,dszs] at*
 omega
theorem opa_TB0_TC0 {H:Type} {enc:TypeId×Value→H} {w:World} {B:DataW H→Nat} (hB:BulkOk B): ∀m,OpnAt enc Tryz.prog w 125 ce B m∧OpnAt enc Tryz.prog w 32 aY B m:=by
 intro m
 induction m using Nat.strongRecOn with
 |ind m ih=>
 refine⟨?_,?_⟩
 ·skip
  intro cs x h
  obtain⟨xs,n,rfl,rfl,hlen,hxl,hf⟩:=DataW.trod_struct Tryz.underlying125 h
  have hct:Tryz.prog.cellsOf 125=7:=by kernel_rfl
  rw[hct] at hlen
  obtain⟨x0,x1,x2,x3,x4,x5,x6,rfl⟩: ∃x0 x1 x2 x3 x4 x5 x6,xs=[x0,x1,x2,x3,x4,x5,x6]:=by
   match xs,hxl with
   |[x0,x1,x2,x3,x4,x5,x6],_=>exact⟨x0,x1,x2,x3,x4,x5,x6,rfl⟩
  have f0:DataW.trod enc Tryz.prog w 0 (λ_=>true) true n 9 ((cs.drop 0).take (Tryz.prog.cellsOf 9))=some x0:=hf 0 _ rfl
  rw[show Tryz.prog.cellsOf 9=1 by kernel_rfl] at f0
  obtain⟨a0,r0,v0,b0⟩:=(λ_=>dU hB Tryz.underlying9) n _ _ f0
  have f1:DataW.trod enc Tryz.prog w 0 (λ_=>true) true n 9 ((cs.drop 1).take (Tryz.prog.cellsOf 9))=some x1:=hf 1 _ rfl
  rw[show Tryz.prog.cellsOf 9=1 by kernel_rfl] at f1
  obtain⟨a1,r1,v1,b1⟩:=(λ_=>dU hB Tryz.underlying9) n _ _ f1
  have f2:DataW.trod enc Tryz.prog w 0 (λ_=>true) true n 9 ((cs.drop 2).take (Tryz.prog.cellsOf 9))=some x2:=hf 2 _ rfl
  rw[show Tryz.prog.cellsOf 9=1 by kernel_rfl] at f2
  obtain⟨a2,r2,v2,b2⟩:=(λ_=>dU hB Tryz.underlying9) n _ _ f2
  have f3:DataW.trod enc Tryz.prog w 0 (λ_=>true) true n 122 ((cs.drop 3).take (Tryz.prog.cellsOf 122))=some x3:=hf 3 _ rfl
  rw[show Tryz.prog.cellsOf 122=1 by kernel_rfl] at f3
  obtain⟨a3,r3,v3,b3⟩:=(cq (m:=n) (e:=178) (sz:=7) hB Tryz.underlying122 kr (λk _=>(opa_TR0 hB) k)) _ _ f3
  have f4:DataW.trod enc Tryz.prog w 0 (λ_=>true) true n 58 ((cs.drop 4).take (Tryz.prog.cellsOf 58))=some x4:=hf 4 _ rfl
  rw[show Tryz.prog.cellsOf 58=1 by kernel_rfl] at f4
  obtain⟨a4,r4,v4,b4⟩:=(cq (m:=n) (e:=9) (sz:=1) hB Tryz.underlying58 kr (λk _=>(λ_=>dU hB Tryz.underlying9) k)) _ _ f4
  have f5:DataW.trod enc Tryz.prog w 0 (λ_=>true) true n 4 ((cs.drop 5).take (Tryz.prog.cellsOf 4))=some x5:=hf 5 _ rfl
  rw[show Tryz.prog.cellsOf 4=1 by kernel_rfl] at f5
  obtain⟨a5,r5,v5,b5⟩:=(λ_=>oU hB Tryz.underlying4) n _ _ f5
  have f6:DataW.trod enc Tryz.prog w 0 (λ_=>true) true n 123 ((cs.drop 6).take (Tryz.prog.cellsOf 123))=some x6:=hf 6 _ rfl
  rw[show Tryz.prog.cellsOf 123=1 by kernel_rfl] at f6
  obtain⟨a6,r6,v6,b6⟩:=(cq (m:=n) (e:=32) (sz:=4) hB Tryz.underlying123 kr (λk hk=>(ih k (by omega)).2)) _ _ f6
  refine⟨⟨a0,a1,a2,a3,a4,a5,a6⟩,?_,?_,?_⟩
  ·rw[gl]
   have hcs:au (Mem.of w) _ (cs.drop 0):=(au.cut (k:=1) r0 (by rw[List.drop_drop];exact(au.cut (k:=1) r1 (by rw[List.drop_drop];exact(au.cut (k:=1) r2 (by rw[List.drop_drop];exact(au.cut (k:=1) r3 (by rw[List.drop_drop];exact(au.cut (k:=1) r4 (by rw[List.drop_drop];exact(au.cut (k:=1) r5 (by rw[List.drop_drop];exact(au.cut (k:=1) r6 (by rw[List.drop_drop];exact(show au (Mem.of w) [] (cs.drop 7) from List.drop_eq_nil_of_le (by omega))))))))))))))))
   exact hcs
  ·rw[gl];exact⟨v0,⟨v1,⟨v2,⟨v3,⟨v4,⟨v5,⟨v6,trivial⟩⟩⟩⟩⟩⟩⟩
  rw[gl]
  have:=hB.agg ([x0,x1,x2,x3,x4,x5,x6].map (·.1))
  simp only[List.map_cons,List.map_nil,List.sum_cons,List.sum_nil] at this ⊢
  simp only[dsz,dszs] at*
  omega
 skip
 intro cs x h
 obtain⟨xs,n,rfl,rfl,hlen,hxl,hf⟩:=DataW.trod_struct Tryz.underlying32 h
 have hct:Tryz.prog.cellsOf 32=4:=by kernel_rfl
 rw[hct] at hlen
 obtain⟨x0,x1,x2,x3,rfl⟩: ∃x0 x1 x2 x3,xs=[x0,x1,x2,x3]:=by
  match xs,hxl with
  |[x0,x1,x2,x3],_=>exact⟨x0,x1,x2,x3,rfl⟩
 have f0:DataW.trod enc Tryz.prog w 0 (λ_=>true) true n 27 ((cs.drop 0).take (Tryz.prog.cellsOf 27))=some x0:=hf 0 _ rfl
 rw[show Tryz.prog.cellsOf 27=1 by kernel_rfl] at f0
 obtain⟨a0,r0,v0,b0⟩:=(cq (m:=n) (e:=245) (sz:=10) hB Tryz.underlying27 kr (λk _=>(opa_TL0 hB) k)) _ _ f0
 have f1:DataW.trod enc Tryz.prog w 0 (λ_=>true) true n 28 ((cs.drop 1).take (Tryz.prog.cellsOf 28))=some x1:=hf 1 _ rfl
 rw[show Tryz.prog.cellsOf 28=1 by kernel_rfl] at f1
 obtain⟨a1,r1,v1,b1⟩:=(cq (m:=n) (e:=191) (sz:=15) hB Tryz.underlying28 kr (λk _=>(opa_TM0 hB) k)) _ _ f1
 have f2:DataW.trod enc Tryz.prog w 0 (λ_=>true) true n 29 ((cs.drop 2).take (Tryz.prog.cellsOf 29))=some x2:=hf 2 _ rfl
 rw[show Tryz.prog.cellsOf 29=1 by kernel_rfl] at f2
 obtain⟨a2,r2,v2,b2⟩:=(cq (m:=n) (e:=125) (sz:=7) hB Tryz.underlying29 kr (λk hk=>(ih k (by omega)).1)) _ _ f2
 have f3:DataW.trod enc Tryz.prog w 0 (λ_=>true) true n 30 ((cs.drop 3).take (Tryz.prog.cellsOf 30))=some x3:=hf 3 _ rfl
 rw[show Tryz.prog.cellsOf 30=1 by kernel_rfl] at f3
 obtain⟨a3,r3,v3,b3⟩:=(cq (m:=n) (e:=181) (sz:=8) hB Tryz.underlying30 kr (λk _=>(opa_TE0 hB) k)) _ _ f3
 refine⟨⟨a0,a1,a2,a3⟩,?_,?_,?_⟩
 ·rw[gn]
  have hcs:au (Mem.of w) _ (cs.drop 0):=(au.cut (k:=1) r0 (by rw[List.drop_drop];exact(au.cut (k:=1) r1 (by rw[List.drop_drop];exact(au.cut (k:=1) r2 (by rw[List.drop_drop];exact(au.cut (k:=1) r3 (by rw[List.drop_drop];exact(show au (Mem.of w) [] (cs.drop 4) from List.drop_eq_nil_of_le (by omega))))))))))
  exact hcs
 ·rw[gn];exact⟨v0,⟨v1,⟨v2,⟨v3,trivial⟩⟩⟩⟩
 rw[gn]
 have:=hB.agg ([x0,x1,x2,x3].map (·.1))
 simp only[List.map_cons,List.map_nil,List.sum_cons,List.sum_nil] at this ⊢
 simp only[dsz,dszs] at*
 omega
theorem opa_TC0 {H:Type} {enc:TypeId×Value→H} {w:World} {B:DataW H→Nat} (hB:BulkOk B) (m:Nat):OpnAt enc Tryz.prog w 32 aY B m:=(opa_TB0_TC0 hB m).2
theorem Au {H:Type} {enc:TypeId×Value→H} {w:World} {B:DataW H→Nat} (hB:BulkOk B): ∀m,OpnAt enc Tryz.prog w 186 aj B m:=by
 intro m
 induction m using Nat.strongRecOn with
 |ind m ih=>
 intro cs x h
 obtain⟨xs,n,rfl,rfl,hlen,hxl,hf⟩:=DataW.trod_struct Tryz.underlying186 h
 have hct:Tryz.prog.cellsOf 186=8:=by kernel_rfl
 rw[hct] at hlen
 obtain⟨x0,x1,x2,rfl⟩: ∃x0 x1 x2,xs=[x0,x1,x2]:=by
  match xs,hxl with
  |[x0,x1,x2],_=>exact⟨x0,x1,x2,rfl⟩
 have f0:DataW.trod enc Tryz.prog w 0 (λ_=>true) true n 9 ((cs.drop 0).take (Tryz.prog.cellsOf 9))=some x0:=hf 0 _ rfl
 rw[show Tryz.prog.cellsOf 9=1 by kernel_rfl] at f0
 obtain⟨a0,r0,v0,b0⟩:=(λ_=>dU hB Tryz.underlying9) n _ _ f0
 have f1:DataW.trod enc Tryz.prog w 0 (λ_=>true) true n 4 ((cs.drop 1).take (Tryz.prog.cellsOf 4))=some x1:=hf 1 _ rfl
 rw[show Tryz.prog.cellsOf 4=1 by kernel_rfl] at f1
 obtain⟨a1,r1,v1,b1⟩:=(λ_=>oU hB Tryz.underlying4) n _ _ f1
 have f2:DataW.trod enc Tryz.prog w 0 (λ_=>true) true n 184 ((cs.drop 2).take (Tryz.prog.cellsOf 184))=some x2:=hf 2 _ rfl
 rw[show Tryz.prog.cellsOf 184=6 by kernel_rfl] at f2
 obtain⟨a2,r2,v2,b2⟩:=(opa_TJ0 hB) n _ _ f2
 refine⟨⟨a0,a1,a2⟩,?_,?_,?_⟩
 ·rw[du]
  have hcs:au (Mem.of w) _ (cs.drop 0):=(au.cut (k:=1) r0 (by rw[List.drop_drop];exact(au.cut (k:=1) r1 (by rw[List.drop_drop];exact(au.cut (k:=6) r2 (by rw[List.drop_drop];exact(show au (Mem.of w) [] (cs.drop 8) from List.drop_eq_nil_of_le (by omega))))))))
  exact hcs
 ·rw[du];exact⟨v0,⟨v1,⟨v2,trivial⟩⟩⟩
 rw[du]
 have:=hB.agg ([x0,x1,x2].map (·.1))
 simp only[List.map_cons,List.map_nil,List.sum_cons,List.sum_nil] at this ⊢
 simp only[dsz,dszs] at*
 omega
theorem opa_TW0 {H:Type} {enc:TypeId×Value→H} {w:World} {B:DataW H→Nat} (hB:BulkOk B): ∀m,OpnAt enc Tryz.prog w 60 aK B m:=by
 intro m
 induction m using Nat.strongRecOn with
 |ind m ih=>
 intro cs x h
 obtain⟨xs,n,rfl,rfl,hlen,hxl,hf⟩:=DataW.trod_struct Tryz.underlying60 h
 have hct:Tryz.prog.cellsOf 60=6:=by kernel_rfl
 rw[hct] at hlen
 obtain⟨x0,x1,x2,x3,x4,x5,rfl⟩: ∃x0 x1 x2 x3 x4 x5,xs=[x0,x1,x2,x3,x4,x5]:=by
  match xs,hxl with
  |[x0,x1,x2,x3,x4,x5],_=>exact⟨x0,x1,x2,x3,x4,x5,rfl⟩
 have f0:DataW.trod enc Tryz.prog w 0 (λ_=>true) true n 9 ((cs.drop 0).take (Tryz.prog.cellsOf 9))=some x0:=hf 0 _ rfl
 rw[show Tryz.prog.cellsOf 9=1 by kernel_rfl] at f0
 obtain⟨a0,r0,v0,b0⟩:=(λ_=>dU hB Tryz.underlying9) n _ _ f0
 have f1:DataW.trod enc Tryz.prog w 0 (λ_=>true) true n 9 ((cs.drop 1).take (Tryz.prog.cellsOf 9))=some x1:=hf 1 _ rfl
 rw[show Tryz.prog.cellsOf 9=1 by kernel_rfl] at f1
 obtain⟨a1,r1,v1,b1⟩:=(λ_=>dU hB Tryz.underlying9) n _ _ f1
 have f2:DataW.trod enc Tryz.prog w 0 (λ_=>true) true n 9 ((cs.drop 2).take (Tryz.prog.cellsOf 9))=some x2:=hf 2 _ rfl
 rw[show Tryz.prog.cellsOf 9=1 by kernel_rfl] at f2
 obtain⟨a2,r2,v2,b2⟩:=(λ_=>dU hB Tryz.underlying9) n _ _ f2
 have f3:DataW.trod enc Tryz.prog w 0 (λ_=>true) true n 24 ((cs.drop 3).take (Tryz.prog.cellsOf 24))=some x3:=hf 3 _ rfl
 rw[show Tryz.prog.cellsOf 24=1 by kernel_rfl] at f3
 obtain⟨a3,r3,v3,b3⟩:=(λm=>cq (e:=186) (sz:=8) hB Tryz.underlying24 kr (λk _=>(Au hB) k)) n _ _ f3
 have f4:DataW.trod enc Tryz.prog w 0 (λ_=>true) true n 4 ((cs.drop 4).take (Tryz.prog.cellsOf 4))=some x4:=hf 4 _ rfl
 rw[show Tryz.prog.cellsOf 4=1 by kernel_rfl] at f4
 obtain⟨a4,r4,v4,b4⟩:=(λ_=>oU hB Tryz.underlying4) n _ _ f4
 have f5:DataW.trod enc Tryz.prog w 0 (λ_=>true) true n 58 ((cs.drop 5).take (Tryz.prog.cellsOf 58))=some x5:=hf 5 _ rfl
 rw[show Tryz.prog.cellsOf 58=1 by kernel_rfl] at f5
 obtain⟨a5,r5,v5,b5⟩:=(λm=>cq (e:=9) (sz:=1) hB Tryz.underlying58 kr (λk _=>(λ_=>dU hB Tryz.underlying9) k)) n _ _ f5
 refine⟨⟨a0,a1,a2,a3,a4,a5⟩,?_,?_,?_⟩
 ·rw[eD]
  have hcs:au (Mem.of w) _ (cs.drop 0):=(au.cut (k:=1) r0 (by rw[List.drop_drop];exact(au.cut (k:=1) r1 (by rw[List.drop_drop];exact(au.cut (k:=1) r2 (by rw[List.drop_drop];exact(au.cut (k:=1) r3 (by rw[List.drop_drop];exact(au.cut (k:=1) r4 (by rw[List.drop_drop];exact(au.cut (k:=1) r5 (by rw[List.drop_drop];exact(show au (Mem.of w) [] (cs.drop 6) from List.drop_eq_nil_of_le (by omega))))))))))))))
  exact hcs
 ·rw[eD];exact⟨v0,⟨v1,⟨v2,⟨v3,⟨v4,⟨v5,trivial⟩⟩⟩⟩⟩⟩
 rw[eD]
 have:=hB.agg ([x0,x1,x2,x3,x4,x5].map (·.1))
 simp only[List.map_cons,List.map_nil,List.sum_cons,List.sum_nil] at this ⊢
 simp only[dsz,dszs] at*
 omega
theorem opa_TK0 {H:Type} {enc:TypeId×Value→H} {w:World} {B:DataW H→Nat} (hB:BulkOk B): ∀m,OpnAt enc Tryz.prog w 26 eN B m:=by
 intro m
 induction m using Nat.strongRecOn with
 |ind m ih=>
 intro cs x h
 obtain⟨xs,n,rfl,rfl,hlen,hxl,hf⟩:=DataW.trod_struct Tryz.underlying26 h
 have hct:Tryz.prog.cellsOf 26=8:=by kernel_rfl
 rw[hct] at hlen
 obtain⟨x0,x1,x2,x3,x4,x5,x6,x7,rfl⟩: ∃x0 x1 x2 x3 x4 x5 x6 x7,xs=[x0,x1,x2,x3,x4,x5,x6,x7]:=by
  match xs,hxl with
  |[x0,x1,x2,x3,x4,x5,x6,x7],_=>exact⟨x0,x1,x2,x3,x4,x5,x6,x7,rfl⟩
 have f0:DataW.trod enc Tryz.prog w 0 (λ_=>true) true n 23 ((cs.drop 0).take (Tryz.prog.cellsOf 23))=some x0:=hf 0 _ rfl
 rw[show Tryz.prog.cellsOf 23=1 by kernel_rfl] at f0
 obtain⟨a0,r0,v0,b0⟩:=(λm=>cq (e:=60) (sz:=6) hB Tryz.underlying23 kr (λk _=>(opa_TW0 hB) k)) n _ _ f0
 have f1:DataW.trod enc Tryz.prog w 0 (λ_=>true) true n 23 ((cs.drop 1).take (Tryz.prog.cellsOf 23))=some x1:=hf 1 _ rfl
 rw[show Tryz.prog.cellsOf 23=1 by kernel_rfl] at f1
 obtain⟨a1,r1,v1,b1⟩:=(λm=>cq (e:=60) (sz:=6) hB Tryz.underlying23 kr (λk _=>(opa_TW0 hB) k)) n _ _ f1
 have f2:DataW.trod enc Tryz.prog w 0 (λ_=>true) true n 23 ((cs.drop 2).take (Tryz.prog.cellsOf 23))=some x2:=hf 2 _ rfl
 rw[show Tryz.prog.cellsOf 23=1 by kernel_rfl] at f2
 obtain⟨a2,r2,v2,b2⟩:=(λm=>cq (e:=60) (sz:=6) hB Tryz.underlying23 kr (λk _=>(opa_TW0 hB) k)) n _ _ f2
 have f3:DataW.trod enc Tryz.prog w 0 (λ_=>true) true n 24 ((cs.drop 3).take (Tryz.prog.cellsOf 24))=some x3:=hf 3 _ rfl
 rw[show Tryz.prog.cellsOf 24=1 by kernel_rfl] at f3
 obtain⟨a3,r3,v3,b3⟩:=(λm=>cq (e:=186) (sz:=8) hB Tryz.underlying24 kr (λk _=>(Au hB) k)) n _ _ f3
 have f4:DataW.trod enc Tryz.prog w 0 (λ_=>true) true n 9 ((cs.drop 4).take (Tryz.prog.cellsOf 9))=some x4:=hf 4 _ rfl
 rw[show Tryz.prog.cellsOf 9=1 by kernel_rfl] at f4
 obtain⟨a4,r4,v4,b4⟩:=(λ_=>dU hB Tryz.underlying9) n _ _ f4
 have f5:DataW.trod enc Tryz.prog w 0 (λ_=>true) true n 24 ((cs.drop 5).take (Tryz.prog.cellsOf 24))=some x5:=hf 5 _ rfl
 rw[show Tryz.prog.cellsOf 24=1 by kernel_rfl] at f5
 obtain⟨a5,r5,v5,b5⟩:=(λm=>cq (e:=186) (sz:=8) hB Tryz.underlying24 kr (λk _=>(Au hB) k)) n _ _ f5
 have f6:DataW.trod enc Tryz.prog w 0 (λ_=>true) true n 3 ((cs.drop 6).take (Tryz.prog.cellsOf 3))=some x6:=hf 6 _ rfl
 rw[show Tryz.prog.cellsOf 3=1 by kernel_rfl] at f6
 obtain⟨a6,r6,v6,b6⟩:=(λ_=>sR hB Tryz.underlying3) n _ _ f6
 have f7:DataW.trod enc Tryz.prog w 0 (λ_=>true) true n 22 ((cs.drop 7).take (Tryz.prog.cellsOf 22))=some x7:=hf 7 _ rfl
 rw[show Tryz.prog.cellsOf 22=1 by kernel_rfl] at f7
 obtain⟨a7,r7,v7,b7⟩:=(λ_=>sR hB Tryz.underlying22) n _ _ f7
 refine⟨⟨a0,a1,a2,a3,a4,a5,a6,a7⟩,?_,?_,?_⟩
 ·rw[lw]
  have hcs:au (Mem.of w) _ (cs.drop 0):=(au.cut (k:=1) r0 (by rw[List.drop_drop];exact(au.cut (k:=1) r1 (by rw[List.drop_drop];exact(au.cut (k:=1) r2 (by rw[List.drop_drop];exact(au.cut (k:=1) r3 (by rw[List.drop_drop];exact(au.cut (k:=1) r4 (by rw[List.drop_drop];exact(au.cut (k:=1) r5 (by rw[List.drop_drop];exact(au.cut (k:=1) r6 (by rw[List.drop_drop];exact(au.cut (k:=1) r7 (by rw[List.drop_drop];exact(show au (Mem.of w) [] (cs.drop 8) from List.drop_eq_nil_of_le (by omega))))))))))))))))))
  exact hcs
 ·rw[lw];exact⟨v0,⟨v1,⟨v2,⟨v3,⟨v4,⟨v5,⟨v6,⟨v7,trivial⟩⟩⟩⟩⟩⟩⟩⟩
 rw[lw]
 have:=hB.agg ([x0,x1,x2,x3,x4,x5,x6,x7].map (·.1))
 simp only[List.map_cons,List.map_nil,List.sum_cons,List.sum_nil] at this ⊢
 simp only[dsz,dszs] at*
 omega
theorem AM {H:Type} (l:List (DataW H)):Rows.uptoBulkAll l=(l.map Rows.uptoBulk).sum:=by
 induction l with
 |nil=>simp[Rows.uptoBulkAll]
 |cons x l ih=>simp only[Rows.uptoBulkAll,List.map_cons,List.sum_cons,ih]
theorem bulk_ok {H:Type}:BulkOk (H:=H) Rows.uptoBulk where
 one d:=by
  cases d with
  |lit l=>cases l<;>simp[Rows.uptoBulk]
  |nil=>simp[Rows.uptoBulk]
  |ptr d=>simp[Rows.uptoBulk]
  |slice elems spare=>simp[Rows.uptoBulk]
  |agg parts=>simp[Rows.uptoBulk]
  |iface t d=>simp[Rows.uptoBulk]
  |map entries=>simp[Rows.uptoBulk]
  |held h=>simp[Rows.uptoBulk]
 str l:=by simp[Rows.uptoBulk]
 slice e s:=by
  simp only[Rows.uptoBulk]
  rw[AM e]
  omega
 agg e:=by
  simp only[Rows.uptoBulk]
  rw[AM e]
  exact Nat.le_refl _
theorem xC {H:Type} {d:DataW H} {l:List (DataW H)} (h:Rows.uptoSmall H l=true) (hd:d∈l):Rows.uptoBulk d≤1048576:=by
 unfold Rows.uptoSmall at h
 have h:=of_decide_eq_true h
 rw[AM] at h
 have:=le_sum (List.mem_map_of_mem (f:=Rows.uptoBulk) hd)
 omega
end Go.Proofs.YtkmbfmdhoeibhaaGreat
end
