/-
  Texts of this claim, packed (what nothing names is left out): P3, Q7, P4, Q8a, Q8b, Q8c, P5, P6. Own work, partly printed by own programs. No condition.
-/
import Derived.Test.YtkmbfmdhoeibhaaGreatPkS3
import Derived.Test.YtkmbfmdhoeibhaaGreatPkS2
set_option linter.unusedVariables false
set_option linter.unusedSimpArgs false
set_option maxHeartbeats 2000000
namespace Go.Proofs.YtkmbfmdhoeibhaaGreat
open Go Go.Vc Go.RowKit
variable {n:Nat}
def CsOK (l:Cw):Prop:=l.length≤1000000000∧∀c∈l,dsz (bb c)≤10000000000000
theorem tk1 {α:Type} {xs:List α} {i:Int} {x:α} (h:aq xs i=some x):xs.take (i.toNat+1)=xs.take i.toNat++[x]:=by
 unfold aq at h
 split at h
 ·rw[List.take_add_one,h,Option.toList_some]
 cases h
instance {x:bZ}:Tt (mI n x) (10000000000001<n∧dsz (aN x)≤10000000000000) λw=>0≤w∧w≤800000000000000000:=⟨λ ⟨hn,hz⟩=>by
 have hp:_∧_:=Sz.p x
 haveI: ∀w,Tt (av (pQ n x) n (w,(0:Int))) (0≤w∧w≤10001∧x.fL.length≤50) λw=>0≤w∧w≤800000000000000000:=λw=>⟨λh=>Tot.li (λs=>s.2) (λs=>0≤s.1∧s.1≤10001+14300000000000000*s.2∧s.2≤x.fL.length) x.fL.length (by omega) (by dsimp only;omega) λs h1 h2=>by
  unfold pQ;exact tgo⟩
 unfold mI;exact tgo⟩
theorem w15 (hn:10000000000001<n): ∀ (k:Nat) (x:cy) (d:Int),dsz (bb x)<k→dsz (bb x)≤10000000000000→0≤d∧d≤1000→Tot (dP n k x d) λw=>0≤w∧w≤2000000000000000000+10000*d
 |0,x,d,h,_,_=>by omega
 |k+1,x,d,hk,hz,hd=>by
  have hp:_∧_:=Sz.p x
  haveI: ∀y e,Tt (dP n k y e) (dsz (bb y)<k∧dsz (bb y)≤10000000000000∧0≤e∧e≤1000) (λw=>0≤w∧w≤2000000000000000000+10000*e):=λy e=>⟨λh=>w15 hn k y e h.1 h.2.1 h.2.2⟩
  haveI: ∀w,Tt (av (nD n (dP n k) x d) n (w,(0:Int))) (0≤w∧w≤1600000000000010001∧1≤d) (λw=>0≤w∧w≤2000000000000000000+10000*d):=λw=>⟨λh=>Tot.li (λs=>s.2) (λs=>0≤s.1∧s.1≤2000000000000000000+10000*d) x.fL.length (by omega) (by dsimp only;omega) λs h1 h2=>by
   unfold nD
   refine Tot.b (Tot.m (R:=λb=>b=true→s.2<x.fL.length∧s.1≤10000) (Tot.cd (λh3=>Tot.s (by simp;omega)) λ_=>Tot.s (by simp)) λb hb=>Tot.c (λh3=>?_) λ_=>Tot.sb h2)
   have:=hb h3
   exact tgo⟩
  unfold dP pV
  refine Tot.b (Tot.m (R:=λb=>b=false→1≤d) (Tot.cd (λh3=>Tot.s (by simp)) λ_=>Tot.s (by omega)) λb hb=>Tot.c (λ_=>Tot.s (by omega)) λh3=>?_)
  have:=hb h3
  exact tgo
instance {l:List cy}:Tt (qH n l) (10000000000001<n∧CsOK l) λ_=>True:=⟨λ ⟨hn,hl,hc⟩=>by
 haveI: ∀c,Tt (tN n c 20) (dsz (bb c)≤10000000000000) (λw=>0≤w∧w≤2000000000000200000):=λc=>⟨λh=>(w15 hn n c 20 (by omega) h (by omega)).m λ_ h=>by omega⟩
 haveI:Tt (av (pN n l) n ((0:Int),(0:Int))) True λ_=>True:=⟨λ_=>Tot.li (λs=>s.2) (λs=>0≤s.1∧s.1≤5000) l.length (by omega) (by simp) λs h1 h2=>by
  unfold pN
  refine Tot.cd (λh3=>Tot.b (Tot.gy ⟨h1,h3⟩ λc he hm=>?_)) λ_=>Tot.sb trivial
  have:=hc c hm
  exact tgo⟩
 unfold qH;exact tgo⟩
instance {x:bZ} {a b c:Bool}:Tt (jX n x a b c) True λ_=>True:=⟨λ_=>by unfold jX;cases a<;>cases b<;>cases c<;>exact tgo⟩
instance {x:bZ}:Tt (ew n x) (10000000000001<n∧dsz (aN x)≤10000000000000) λb=>b=true→x.aA=1→ -9007199254740992≤x.dV∧x.dV≤9007199254740992:=⟨λ ⟨hn,hz⟩=>by
 have hp:_∧_:=Sz.p x
 unfold ew
 refine Tot.cd (λh=>Tot.cl trivial λ_ _=>Tot.c (λ_=>Tot.cl (by omega) λ_ _=>Tot.s (by omega)) λ_=>Tot.s (by simp)) λ_=>Tot.cd (λh=>Tot.cl trivial λ_ _=>Tot.c (λ_=>?_) λ_=>Tot.s (by simp)) λh=>Tot.cd (λ_=>Tot.cl trivial λ_ _=>Tot.s (by omega)) λ_=>Tot.s (by simp)
 exact Tot.cd (λ_=>Tot.s (by simp;omega)) λ_=>Tot.s (by simp)⟩
instance {l:List aG} {k:Bs}:Tt (tJ n l k) (10000000000001<n∧l.length≤1000000000) λr=>r.2=true→r.1∈l:=⟨λ ⟨hn,hl⟩=>by
 haveI: ∀g,Tt (av (rG n l k) n ((0:Int),g)) True λb=>match b with|.inl g=>g∈l|.inr _=>True:=λg=>⟨λ_=>Tot.li (λs=>s.1) (λ_=>True) l.length (by omega) (by simp) λs h1 _=>by unfold rG;exact tgo⟩
 unfold tJ
 refine Tot.cl trivial λb hb=>?_
 cases b with
 |inl g=>exact Tot.s λ_=>hb
 |inr g=>exact Tot.s (by simp)⟩
theorem sz_text (t:Bs):dsz (aw (⟨3,false,0,t,[],[]⟩:bz))≤7+t.length:=by have hp:_∧_:=Sz.p (⟨3,false,0,t,[],[]⟩:bz);simp[dszs] at hp;omega
theorem sz_num (i:Int):dsz (aw (⟨2,false,i,[],[],[]⟩:bz))≤7:=by have hp:_∧_:=Sz.p (⟨2,false,i,[],[],[]⟩:bz);simp[dszs] at hp;omega
theorem plain15 {x:bZ} {l:Cp} {B:Nat} (hn:10000000000001<n) (hz:dsz (aN x)≤B) (h10:10≤B) (hB:B≤10000000000000) (hl:l.length≤1000000000) (hg: ∀g∈l,dsz (aw g.fV)≤B):Tot (iU n x l) λr=>dsz (aw r.1.fV)≤B:=by
 have hp:_∧_:=Sz.p x
 have h0:=uo
 have h1:=sz_text x.be
 have h2:=sz_num x.dV
 unfold iU xG yZ
 refine Tot.cl ⟨hn,by omega⟩ λ_ _=>Tot.cn (Tot.c (λ_=>Tot.cd (λ_=>Tot.b (Tot.s (Tot.s ?_))) λ_=>Tot.cd (λ_=>Tot.b (Tot.s (Tot.s ?_))) λ_=>Tot.cl ⟨hn,hl⟩ λr hr=>Tot.cn (Tot.c (λh=>Tot.s (by have:=hg _ (hr h);dsimp only;omega)) λ_=>Tot.s (by dsimp only;omega))) λ_=>Tot.s (by dsimp only;omega))<;>dsimp only<;>omega
instance {x:bZ} {l:List aG}:Tt (iU n x l) (10000000000001<n∧dsz (aN x)≤10000000000000∧GsOK l) λr=>dsz (aw r.1.fV)≤10000000000000:=⟨λ ⟨hn,hz,hl,hg⟩=>plain15 hn hz (by omega) (by omega) hl hg⟩
instance {l:List cy} {k:Bs}:Tt (cp n l k) (10000000000001<n∧l.length≤1000000000) λj=>j= -1∨0≤j∧j<l.length:=⟨λ ⟨hn,hl⟩=>by
 haveI:Tt (av (vB n l k) n (0:Int)) True λb=>match b with|.inl j=>0≤j∧j<l.length|.inr _=>True:=⟨λ_=>Tot.li (λs=>s) (λ_=>True) l.length (by omega) (by simp) λs h1 _=>by unfold vB;exact tgo⟩
 unfold cp
 refine Tot.cl trivial λb hb=>?_
 cases b with
 |inl g=>exact Tot.s (.inr hb)
 |inr g=>exact Tot.s (.inl rfl)⟩
instance {x:bZ}:Tt (pW n x) True λ_=>True:=⟨λ_=>by unfold pW;exact tgo⟩
theorem sh15 (hn:10000000000001<n): ∀ (k:Nat) (x:cy) (d:Int),0≤d→d<k→dsz (bb x)≤10000000000000→d≤1000→Tot (eo n k x d) λ_=>True
 |0,x,d,_,h,_,_=>by omega
 |k+1,x,d,h0,hk,hz,hd=>by
  have hp:_∧_:=Sz.p x
  haveI: ∀y e,Tt (eo n k y e) (0≤e∧e<k∧dsz (bb y)≤10000000000000∧e≤1000) (λ_=>True):=λy e=>⟨λh=>sh15 hn k y e h.1 h.2.1 h.2.2.1 h.2.2.2⟩
  haveI:Tt (av (pU n (eo n k) x d) n (0:Int)) (1≤d) (λ_=>True):=⟨λh=>Tot.li (λs=>s) (λ_=>True) x.fL.length (by omega) (by simp) λs h1 h2=>by
   unfold pU;exact tgo⟩
  unfold eo rI
  exact tgo
theorem pr15 (hn:10000000000001<n): ∀ (k:Nat) (x:cy),dsz (bb x)<k→dsz (bb x)≤10000000000000→Tot (eH n k x) λr=>8*r.length≤dsz (bb x)
 |0,x,h,_=>by omega
 |k+1,x,hk,hz=>by
  have hp:_∧_:=Sz.p x
  haveI: ∀y,Tt (eH n k y) (dsz (bb y)<k∧dsz (bb y)≤10000000000000) (λr=>8*r.length≤dsz (bb y)):=λy=>⟨λh=>pr15 hn k y h.1 h.2⟩
  unfold eH pS
  refine Tot.b (Tot.m (R:=λr=>r.length≤2) tgo λy hy=>?_)
  refine Tot.b (Tot.m (R:=λr=>8*r.length≤dsz (bb x)) (Tot.li (λs=>s.2) (λs=>s.2≤x.fL.length∧8*s.1.length≤16+dszs ((x.fL.take s.2.toNat).map bb)) x.fL.length (by omega) (by simp[dszs];omega) λs h1 h2=>?_) λ_ h=>Tot.s h)
  unfold uA
  refine Tot.cd (λh3=>?_) (λh3=>Tot.sb ?_)
  ·refine Tot.b (Tot.gt ⟨h1,h3⟩ λy hy ht=>?_)
   have:=dZ hy
   have:=ht bb
   have:=lA (xs:=x.fL) (s.2.toNat+1)
   have:=lA (xs:=x.fL) s.2.toNat
   simp only[Sz.f,zz,zl] at*
   have e: (s.2+1).toNat=s.2.toNat+1:=by omega
   exact Tot.cl (by omega) λw hw=>Tot.n (by omega) (Tot.i (by omega) (Tot.sn (by dsimp only;rw[e,List.length_append];omega)))
  have:s.2.toNat=x.fL.length:=by omega
  rw[this,List.take_length] at h2
  omega
instance {x:cy}:Tt (tM n x) (10000000000001<n∧dsz (bb x)≤10000000000000) λr=>r.length≤10000000000000:=⟨λh=>(pr15 h.1 n x (by omega) h.2).m λ_ h'=>by omega⟩
instance {l:List Bs} {x:Bs}:Tt (sD n l x) (10000000000001<n∧l.length≤10000000000000) λb=>b=true→x∈l:=⟨λ ⟨hn,hl⟩=>by
 haveI:Tt (av (tK n l x) n (0:Int)) True λb=>match b with|.inl _=>x∈l|.inr _=>True:=⟨λ_=>Tot.li (λs=>s) (λ_=>True) l.length (by omega) (by simp) λs h1 _=>by
  unfold tK
  exact Tot.cd (λh3=>Tot.b (Tot.gy ⟨h1,h3⟩ λy _ hy=>Tot.cd (λh=>Tot.sb (h▸hy)) λh=>Tot.i (by omega) (Tot.sn ⟨h3,by omega,trivial⟩))) λh3=>Tot.sb trivial⟩
 unfold sD
 refine Tot.cl trivial λb hb=>?_
 cases b with
 |inl _=>exact Tot.s λ_=>hb
 |inr _=>exact Tot.s (by simp)⟩
def InG (G:Bs→Prop):Nat→cy→Prop|0,_=>True|k+1,x=>(x.aA=4→G x.aE)∧(x.aA≠4→∀y∈x.fL,InG G k y)
theorem oV {G H:Bs→Prop} (h: ∀a,G a→H a): ∀ (k:Nat) {x:cy},InG G k x→InG H k x
 |0,_,_=>trivial
 |k+1,_,h1=>⟨λe=>h _ (h1.1 e),λe y hy=>oV h k (h1.2 e y hy)⟩
theorem in15 (hn:10000000000001<n): ∀ (k:Nat) (x:cy),dsz (bb x)<k→dsz (bb x)≤10000000000000→Tot (gC n k x) λr=>8*r.length≤dsz (bb x)∧∀m,InG (· ∈r) m x
 |0,x,h,_=>by omega
 |k+1,x,hk,hz=>by
  have hp:_∧_:=Sz.p x
  haveI: ∀y,Tt (gC n k y) (dsz (bb y)<k∧dsz (bb y)≤10000000000000) (λr=>8*r.length≤dsz (bb y)∧∀m,InG (· ∈r) m y):=λy=>⟨λh=>in15 hn k y h.1 h.2⟩
  unfold gC rH
  refine Tot.cd (λh4=>Tot.s ⟨by simp;omega,λm=>by cases m with|zero=>trivial|succ m=>exact⟨λ_=>by simp,λh=>(h h4).elim⟩⟩) λh4=>?_
  refine Tot.b (Tot.m (R:=λr=>8*r.length≤dsz (bb x)∧∀y∈x.fL,∀m,InG (· ∈r) m y) (Tot.li (λs=>s.2) (λs=>s.2≤x.fL.length∧8*s.1.length≤dszs ((x.fL.take s.2.toNat).map bb)∧∀y∈x.fL.take s.2.toNat,∀m,InG (· ∈s.1) m y) x.fL.length (by omega) (by simp[dszs]) λs h1 h2=>?_) λr h=>Tot.s ⟨h.1,λm=>by cases m with|zero=>trivial|succ m=>exact⟨λe=>(h4 e).elim,λ_ y hy=>h.2 y hy m⟩⟩)
  unfold vC
  refine Tot.cd (λh3=>?_) (λh3=>Tot.sb ?_)
  · refine Tot.b (Tot.gy ⟨h1,h3⟩ λy ht hy=>?_)
    have:=dZ hy
    have h5:=lA (xs:=x.fL) (s.2.toNat+1)
    simp only[Sz.f,zz,zl] at*
    have ht:=tk1 ht
    rw[ht,List.map_append,gc] at h5
    simp only[List.map_cons,List.map_nil,dszs] at h5
    have e: (s.2+1).toNat=s.2.toNat+1:=by omega
    refine Tot.cl (by omega) λw hw=>Tot.n (by omega) (Tot.i (by omega) (Tot.sn ⟨h3,by omega,by omega,by dsimp only;rw[e,ht,List.length_append,List.map_append,gc];simp only[List.map_cons,List.map_nil,dszs];omega,λz hz m=>?_⟩))
    rw[e,ht] at hz
    rcases List.mem_append.1 hz with hz|hz
    · exact oV (λa h=>List.mem_append_left _ h) m (h2.2.2 z hz m)
    rw[List.mem_singleton.1 hz]
    exact oV (λa h=>List.mem_append_right _ h) m (hw.2 m)
  have:s.2.toNat=x.fL.length:=by omega
  rw[this,List.take_length] at h2
  exact⟨by omega,h2.2.2⟩
theorem InG_and {G H:Bs→Prop}: ∀ (k:Nat) {x:cy},InG G k x→InG H k x→InG (λa=>G a∧H a) k x
 |0,_,_,_=>trivial
 |k+1,_,h1,h2=>⟨λe=>⟨h1.1 e,h2.1 e⟩,λe y hy=>InG_and k (h1.2 e y hy) (h2.2 e y hy)⟩
instance {x:cy}:Tt (mH n x) (10000000000001<n∧dsz (bb x)≤10000000000000) λr=>8*r.length≤10000000000000∧∀m,InG (· ∈r) m x:=⟨λ ⟨hn,hz⟩=>by
 unfold mH
 refine Tot.b ((in15 hn n x (by omega) hz).m λxs hx=>?_)
 refine Tot.b (Tot.m (R:=λr=>r.length≤xs.length∧∀y∈xs,y∈r) (Tot.li (λs=>s.2) (λs=>s.2≤xs.length∧s.1.length≤s.2∧∀y∈xs.take s.2.toNat,y∈s.1) xs.length (by omega) (by simp) λs h1 ⟨h2,h3,h4⟩=>?_) λr h=>Tot.s ⟨by omega,λm=>oV h.2 m (hx.2 m)⟩)
 unfold vA
 refine Tot.cd (λh5=>Tot.b (Tot.gy ⟨h1,h5⟩ λy he hy=>?_)) λh5=>Tot.sb ⟨by omega,cu h5 h4⟩
 have e: (s.2+1).toNat=s.2.toNat+1:=by omega
 refine Tot.cl ⟨hn,by omega⟩ λb hb=>Tot.cn (Tot.c (λh=>?_) λ_=>?_)
 · refine Tot.i (by omega) (Tot.sn ⟨h5,by omega,by omega,by dsimp only;omega,λz hz=>?_⟩)
   rw[e,tk1 he] at hz
   rcases List.mem_append.1 hz with hz|hz
   · exact h4 z hz
   · rw[List.mem_singleton.1 hz];exact hb h
 · refine Tot.b (Tot.ge he (Tot.n (by omega) (Tot.i (by omega) (Tot.sn ⟨h5,by omega,by omega,by simp;omega,λz hz=>?_⟩))))
   rw[e,tk1 he] at hz
   rcases List.mem_append.1 hz with hz|hz
   · exact List.mem_append_left _ (h4 z hz)
   · exact List.mem_append_right _ hz⟩
theorem next15 {l:Cw} {i:Int} (hn:10000000000001<n) (hl:CsOK l) (hi:0≤i∧i<l.length): ∃xs,dW n l i=some xs∧xs.length≤10000000000000∧(∀j∈xs,0≤j∧j<l.length)∧∀c,aq l i=some c→c.aA≠4→∀m,InG (λa=>∃j,cp n l a=some j∧(0≤j→j∈xs)) m c:=by
 show Tot _ _
 unfold dW
 refine Tot.b (Tot.gy hi λc hc hm=>Tot.cd (λh4=>Tot.s ⟨by simp,by simp,λc' e h=>?_⟩) λh4=>Tot.cl ⟨hn,hl.2 c hm⟩ λys hy=>?_)
 ·rw[hc] at e;injection e with e;subst e;exact(h h4).elim
 refine Tot.b (Tot.m (R:=λxs=>xs.length≤ys.length∧(∀j∈xs,0≤j∧j<l.length)∧∀y∈ys,∃j,cp n l y=some j∧(0≤j→j∈xs)) (Tot.li (λs=>s.2) (λs=>s.2≤ys.length∧s.1.length≤s.2∧(∀j∈s.1,0≤j∧j<l.length)∧∀y∈ys.take s.2.toNat,∃j,cp n l y=some j∧(0≤j→j∈s.1)) ys.length (by omega) (by simp) λs h1 ⟨h2,h3,h6,h7⟩=>?_) λxs h=>Tot.s ⟨by omega,h.2.1,λc' e h5 m=>?_⟩)
 ·unfold xb
  refine Tot.cd (λh5=>Tot.b (Tot.gy ⟨h1,h5⟩ λy he hy=>?_)) λh5=>Tot.sb ⟨by omega,h6,cu h5 h7⟩
  have e: (s.2+1).toNat=s.2.toNat+1:=by omega
  obtain⟨j,g1,g2⟩:=Tt.t (x:=cp n l y) ⟨hn,hl.1⟩
  refine Tot.b (Tot.ge g1 (Tot.cd (λg3=>Tot.n (by omega) (Tot.i (by omega) (Tot.sn ⟨h5,by omega,by omega,by simp;omega,λz hz=>?_,λz hz=>?_⟩))) λg3=>Tot.i (by omega) (Tot.sn ⟨h5,by omega,by omega,by dsimp only;omega,h6,λz hz=>?_⟩)))
  ·rcases List.mem_append.1 hz with hz|hz
   ·exact h6 z hz
   rw[List.mem_singleton.1 hz];omega
  ·rw[e,tk1 he] at hz
   rcases List.mem_append.1 hz with hz|hz
   ·obtain⟨j',g4,g5⟩:=h7 z hz
    exact⟨j',g4,λh=>List.mem_append_left _ (g5 h)⟩
   rw[List.mem_singleton.1 hz];exact⟨j,g1,λ_=>by simp⟩
  rw[e,tk1 he] at hz
  rcases List.mem_append.1 hz with hz|hz
  ·exact h7 z hz
  rw[List.mem_singleton.1 hz];exact⟨j,g1,λh=>(g3 h).elim⟩
 rw[hc] at e;injection e with e;subst e
 exact oV h.2.2 m (hy.2 m)
def gw (xs:CD) (i:Int):Int:=(aq xs i).getD 0
theorem nj {xs:CD} {i:Int} (h:0≤i∧i<xs.length):aq xs i=some (gw xs i):=by
 obtain⟨a,h1,_⟩:=Tot.gy (Q:=λ_=>True) h λ_ _ _=>trivial
 simp[gw,h1]
theorem Bw {xs:CD} {i j v:Int} (h:0≤i∧i<xs.length) (hj:0≤j):gw (xs.set i.toNat v) j=if j=i then v else gw xs j:=by
 simp only[gw,aq,hj,if_true,List.getElem?_set]
 by_cases e:j=i
 ·subst e;rw[if_pos rfl,if_pos rfl,if_pos (by omega)];rfl
 rw[if_neg (by omega),if_neg e]
theorem gw_rep (k:Nat) (i:Int):gw (List.replicate k 0) i=0:=by
 simp only[gw,aq,List.getElem?_replicate]
 split
 ·split<;>rfl
 rfl
def Pt (G:Int→CD):Nat→Int→Int→Prop|0,a,b=>a=b|m+1,a,b=>∃c∈G a,Pt G m c b
theorem Pt_app {G:Int→CD} {b c:Int} (h:c∈G b): ∀ (m:Nat) {a:Int},Pt G m a b→Pt G (m+1) a c
 |0,a,e=>⟨c,(show a=b from e)▸h,rfl⟩
 |m+1,a,⟨d,h1,h2⟩=>⟨d,h1,Pt_app h m h2⟩
structure WayOK (G:Int→List Int) (L:Nat) (t k:Int) (w:List Int):Prop where
 len:w.length=L
 rng: ∀j:Int,0≤j→0≤gw w j∧gw w j<k
 a: ∀j:Int,0≤j∧j<L→t∈G j→1<k→gw w j=1
 b: ∀j:Int,0≤j∧j<L→∀i∈G j,0<gw w i→gw w i+1<k→0<gw w j∧gw w j≤gw w i+1
 c: ∀j:Int,0≤j∧j<L→1<gw w j→∃i∈G j,gw w i=gw w j-1
theorem WayOK.pt {G:Int→CD} {L:Nat} {t:Int} {w:CD} (hG: ∀i:Int,0≤i∧i<L→∀j∈G i,0≤j∧j<L) (h:WayOK G L t (L+1) w): ∀ (m:Nat) (a:Int),0≤a∧a<(L:Int)→m+1≤L→Pt G (m+1) a t→0<gw w a∧gw w a≤m+1
 |0,a,ha,hm,⟨c,h1,h2⟩=>by
  have h2:c=t:=h2
  have:=h.a a ha (h2▸h1) (by omega)
  omega
 |m+1,a,ha,hm,⟨c,h1,h2⟩=>by
  have h3:=h.pt hG m c (hG a ha c h1) (by omega) h2
  have:=h.b a ha c h1 h3.1 (by omega)
  omega
theorem steps15 {l:Cw} {t:Int} {G:Int→CD} (hn:10000000000001<n) (hl:l.length≤6) (hG: ∀i:Int,0≤i∧i<l.length→dW n l i=some (G i)∧(G i).length≤10000000000000∧∀j∈G i,0≤j∧j<l.length):Tot (qI n l t) (WayOK G l.length t (l.length+1)):=by
 unfold qI
 refine Tot.n (by omega) (Tot.b (Tot.m (R:=WayOK G l.length t (l.length+1)) (Tot.l (λs=>1≤s.2∧s.2≤l.length+1∧WayOK G l.length t s.2 s.1) (λs=>(l.length+1-s.2).toNat) ⟨by dsimp only;omega,by dsimp only;omega,by simp,λj _=>by rw[gw_rep];simp,λj hj hm h=>by simp at h,λj hj i hi h=>by rw[gw_rep] at h;omega,λj hj h=>by rw[gw_rep] at h;omega⟩ (by dsimp only;omega) λs ⟨h1,h2,hw⟩=>?_) λ_ h=>Tot.s h))
 unfold vD
 refine Tot.cd (λh3=>?_) λh3=>Tot.sb (by rw[show((l.length:Int)+1)=s.2 by omega];exact hw)
 refine Tot.b (Tot.m (R:=λw:CD=>w.length=l.length∧(∀j:Int,0≤j→gw w j=gw s.1 j∨gw s.1 j=0∧gw w j=s.2∧j<l.length∧((s.2=1∧t∈G j)∨1<s.2∧∃i∈G j,gw s.1 i=s.2-1))∧∀j:Int,0≤j∧j<l.length→gw s.1 j=0→(s.2=1→t∈G j→gw w j=s.2)∧(1<s.2→∀i∈G j,gw s.1 i=s.2-1→gw w j=s.2)) ?_ λw ⟨g1,g2,g3⟩=>?_)
 ·refine Tot.l (λs2:CD×Int=>0≤s2.2∧s2.2≤l.length∧s2.1.length=l.length∧(∀j:Int,0≤j→gw s2.1 j=gw s.1 j∨gw s.1 j=0∧gw s2.1 j=s.2∧j<l.length∧((s.2=1∧t∈G j)∨1<s.2∧∃i∈G j,gw s.1 i=s.2-1))∧(∀j:Int,s2.2≤j→gw s2.1 j=gw s.1 j)∧∀j:Int,0≤j∧j<s2.2→gw s.1 j=0→(s.2=1→t∈G j→gw s2.1 j=s.2)∧(1<s.2→∀i∈G j,gw s.1 i=s.2-1→gw s2.1 j=s.2)) (λs2=>(l.length-s2.2).toNat) ⟨by simp,by simp,hw.len,λj _=>.inl rfl,λj _=>rfl,λj h=>by dsimp only at h;omega⟩ (by dsimp only;omega) λs2 ⟨h4,h5,h6,h7,h8,h9⟩=>?_
  unfold vE
  refine Tot.cd (λh10=>?_) λh10=>Tot.sb ⟨h6,h7,λj hj=>h9 j (by omega)⟩
  refine Tot.b (Tot.ge (nj (by omega)) (Tot.cd (λg1=>Tot.i (by omega) (Tot.sn ⟨⟨by dsimp only;omega,by dsimp only;omega,h6,h7,λj hj=>h8 j (by dsimp only at hj;omega),λj hj hz=>?_⟩,by dsimp only;omega⟩)) λg1=>?_))
  ·by_cases e:j=s2.2
   ·subst e;rw[h8 _ (by omega)] at g1;omega
   exact h9 j (by dsimp only at hj;omega) hz
  obtain⟨hx1,hx2,hx3⟩:=hG s2.2 (by omega)
  have z0:gw s.1 s2.2=0:=by have:=hw.rng s2.2 h4;rw[h8 _ (by omega)] at g1;omega
  refine Tot.b (Tot.ge hx1 (Tot.b (Tot.m (R:=λw:CD=>w.length=l.length∧(∀j:Int,0≤j→j≠s2.2→gw w j=gw s2.1 j)∧(gw w s2.2=0∨gw w s2.2=s.2∧((s.2=1∧t∈G s2.2)∨1<s.2∧∃i∈G s2.2,gw s.1 i=s.2-1))∧∀i∈G s2.2,(s.2=1∧i=t∨1<s.2∧gw s.1 i=s.2-1)→gw w s2.2=s.2) ?_ λw ⟨e1,e2,e3,e4⟩=>?_)))
  ·refine Tot.lm (G s2.2) (λs3=>s3.2) (λ_=>True) (λs3:CD×Int=>s3.2≤(G s2.2).length∧s3.1.length=l.length∧(∀j:Int,0≤j→j≠s2.2→gw s3.1 j=gw s2.1 j)∧(gw s3.1 s2.2=0∨gw s3.1 s2.2=s.2∧((s.2=1∧t∈G s2.2)∨1<s.2∧∃i∈G s2.2,gw s.1 i=s.2-1))∧∀i∈ (G s2.2).take s3.2.toNat,(s.2=1∧i=t∨1<s.2∧gw s.1 i=s.2-1)→gw s3.1 s2.2=s.2) (by omega) rfl ⟨by simp,h6,λ_ _ _=>rfl,.inl (by dsimp only;rw[h8 _ (by omega),z0]),by simp⟩ λs3 d1 ⟨d2,d3,d4,d5,d6⟩ _=>?_
   unfold vF
   refine Tot.cd (λf1=>?_) λf1=>Tot.sb ⟨d3,d4,d5,cu (by omega) d6⟩
   have e: (s3.2+1).toNat=s3.2.toNat+1:=by omega
   obtain⟨i,hi,him⟩: ∃i,aq (G s2.2) s3.2=some i∧i∈G s2.2:=Tot.gy (Q:=λi=>i∈G s2.2) ⟨d1,f1⟩ λ_ _ h=>h
   have hir:=hx3 i him
   have hgi:1<s.2→(gw s3.1 i=s.2-1↔gw s.1 i=s.2-1):=λ_=>by
    by_cases e:i=s2.2
    ·subst e;rw[z0];rcases d5 with d5|d5<;>omega
    rw[d4 i hir.1 e]
    rcases h7 i hir.1 with h|h<;>omega
   have key:Tot ((aq (G s2.2) s3.2).bind λx_5=>
    bif(decide (x_5=t)) then
     (bif(decide (s.2=1)) then
      (some ((true)))
     else
      bif(decide ((1:Int)<s.2)) then
       ((aq (G s2.2) s3.2).bind λx_7=>
       (aq s3.1 x_7).bind λx_9=>
       ar (inR .i64 (s.2-1))<|
       some ((decide (x_9=(s.2-1)))))
      else
       some ((false)))
    else
     bif(decide ((1:Int)<s.2)) then
      ((aq (G s2.2) s3.2).bind λx_11=>
      (aq s3.1 x_11).bind λx_13=>
      ar (inR .i64 (s.2-1))<|
      some ((decide (x_13=(s.2-1)))))
     else
      some ((false))) λb=>b=true↔ (s.2=1∧i=t∨1<s.2∧gw s.1 i=s.2-1):=by
    refine Tot.b (Tot.ge hi (Tot.cd (λq1=>Tot.cd (λq2=>Tot.s (by simp;omega)) λq2=>Tot.cd (λq3=>?_) λq3=>Tot.s (by simp;omega)) λq1=>Tot.cd (λq3=>?_) λq3=>Tot.s (by simp;omega)))
    all_goals have:=hgi q3
    all_goals exact Tot.b (Tot.ge hi (Tot.b (Tot.ge (nj (by omega)) (Tot.i (by omega) (Tot.s (by simp;omega))))))
   refine Tot.b (key.m λb hb=>Tot.c (λq=>?_) λq=>?_)
   ·have hc:=hb.1 q
    refine Tot.b (Tot.ge (nj (by omega)) (Tot.i (by omega) (Tot.sn ⟨f1,rfl,λ_ _=>trivial,by dsimp only;omega,by simp[d3],λj hj hne=>?_,.inr ⟨?_,?_⟩,λi' hi' hc'=>?_⟩)))
    ·dsimp only;rw[Bw (by omega) hj,if_neg hne,d4 j hj hne]
    ·dsimp only;rw[Bw (by omega) h4,if_pos rfl]
    ·rcases hc with⟨c1,c2⟩|⟨c1,c2⟩
     ·exact .inl ⟨c1,c2▸him⟩
     exact .inr ⟨c1,i,him,c2⟩
    dsimp only;rw[Bw (by omega) h4,if_pos rfl]
   refine Tot.i (by omega) (Tot.sn ⟨f1,rfl,λ_ _=>trivial,by dsimp only;omega,d3,d4,d5,λi' hi' hc'=>?_⟩)
   rw[e,tk1 hi] at hi'
   rcases List.mem_append.1 hi' with hi'|hi'
   ·exact d6 i' hi' hc'
   rw[List.mem_singleton.1 hi'] at hc'
   rw[hb.2 hc'] at q;cases q
  refine Tot.i (by omega) (Tot.sn ⟨⟨by dsimp only;omega,by dsimp only;omega,e1,λj hj=>?_,λj hj=>?_,λj hj hz=>?_⟩,by dsimp only;omega⟩)
  ·dsimp only
   by_cases e:j=s2.2
   ·subst e
    rcases e3 with e3|⟨e3,e5⟩
    ·exact .inl (by rw[e3,z0])
    exact .inr ⟨z0,e3,by omega,e5⟩
   rw[e2 j hj e];exact h7 j hj
  ·dsimp only at hj ⊢;rw[e2 j (by omega) (by omega)];exact h8 j (by omega)
  dsimp only at hj ⊢
  by_cases e:j=s2.2
  ·subst e
   exact⟨λc1 c2=>e4 t c2 (.inl ⟨c1,rfl⟩),λc1 i c2 c3=>e4 i c2 (.inr ⟨c1,c3⟩)⟩
  rw[e2 j hj.1 e];exact h9 j (by omega) hz
 refine Tot.i (by omega) (Tot.sn ⟨⟨by dsimp only;omega,by dsimp only;omega,g1,λj hj=>?_,λj hj hm _=>?_,λj hj i hi c1 c2=>?_,λj hj c1=>?_⟩,by dsimp only;omega⟩)
 ·dsimp only
  have:=hw.rng j hj
  rcases g2 j hj with h|h<;>omega
 ·dsimp only
  rcases g2 j hj.1 with h|h
  ·by_cases e:s.2=1
   ·have:=hw.rng j hj.1
    have:=(g3 j hj (by omega)).1 e hm
    omega
   rw[h];exact hw.a j hj hm (by omega)
  by_cases e:s.2=1
  ·omega
  have:=hw.a j hj hm (by omega)
  omega
 ·dsimp only at c1 c2 ⊢
  have hi':=(hG j hj).2.2 i hi
  have r1:=hw.rng i hi'.1
  have r2:=hw.rng j hj.1
  have e1:gw w i=gw s.1 i:=by rcases g2 i hi'.1 with h|h<;>omega
  rw[e1] at c1 c2 ⊢
  by_cases e:gw s.1 i+1<s.2
  ·have:=hw.b j hj i hi c1 e
   rcases g2 j hj.1 with h|h<;>omega
  rcases g2 j hj.1 with h|h
  ·by_cases z:gw s.1 j=0
   ·have:=(g3 j hj z).2 (by omega) i hi (by omega)
    omega
   omega
  omega
 dsimp only at c1 ⊢
 rcases g2 j hj.1 with h|⟨h,h',_,h''⟩
 ·obtain⟨i,hi,e⟩:=hw.c j hj (by omega)
  have r2:=hw.rng j hj.1
  exact⟨i,hi,by rcases g2 i ((hG j hj).2.2 i hi).1 with q|q<;>omega⟩
 rcases h'' with h''|⟨_,i,hi,e⟩
 ·omega
 exact⟨i,hi,by rcases g2 i ((hG j hj).2.2 i hi).1 with q|q<;>omega⟩
theorem Circle15 {l:Cw} {G:Int→CD} (hn:10000000000001<n) (hl:l.length≤6) (hG: ∀i:Int,0≤i∧i<l.length→dW n l i=some (G i)∧(G i).length≤10000000000000∧∀j∈G i,0≤j∧j<l.length):
 Tot (ox n l) λr=>r.length=0→∀i:Int,0≤i→(∀c,aq l i=some c→cp n l c.aE=some i)→i<l.length→∀m,m+1≤l.length→¬Pt G (m+1) i i:=by
 have hb:Tot (av (nC n l) n (0:Int)) λb=>match b with|.inl r=>0<r.length|.inr _=>∀i:Int,0≤i∧i<l.length→(∀c,aq l i=some c→cp n l c.aE=some i)→∀m,m+1≤l.length→¬Pt G (m+1) i i:=by
  refine Tot.l (λs=>0≤s∧s≤l.length∧∀i:Int,0≤i∧i<s→(∀c,aq l i=some c→cp n l c.aE=some i)→∀m,m+1≤l.length→¬Pt G (m+1) i i) (λs=>(l.length-s).toNat) ⟨by simp,by omega,λi hi=>by omega⟩ (by omega) λs ⟨h1,h2,h3⟩=>?_
  unfold nC
  refine Tot.cd (λh4=>Tot.b (Tot.gy ⟨h1,h4⟩ λc hc hm=>?_)) λh4=>Tot.sb λi hi=>h3 i (by omega)
  obtain⟨a,g1,g2⟩:=Tt.t (x:=cp n l c.aE) ⟨hn,by omega⟩
  have nx: ((∀c,aq l s=some c→cp n l c.aE=some s)→∀m,m+1≤l.length→¬Pt G (m+1) s s)→∀i:Int,0≤i∧i<s+1→(∀c,aq l i=some c→cp n l c.aE=some i)→∀m,m+1≤l.length→¬Pt G (m+1) i i:=λh i hi=>by
   by_cases e:i=s
   ·subst e;exact h
   exact h3 i (by omega)
  refine Tot.b (Tot.ge g1 (Tot.cn (Tot.cd (λe=>?_) λe=>Tot.i (by omega) (Tot.sn ⟨⟨by omega,by omega,nx λh=>?_⟩,by omega⟩))))
  ·refine Tot.b ((steps15 (t:=s) hn hl hG).m λw hw=>Tot.b (Tot.ge (nj (by have:=hw.len;omega)) (Tot.cd (λh=>Tot.i (by omega) (Tot.sn ⟨⟨by omega,by omega,nx λ_ m hm hp=>?_⟩,by omega⟩)) λh=>Tot.b (Tot.ge hc ?_))))
   ·have:=hw.pt (λi hi=>(hG i hi).2.2) m s ⟨h1,h4⟩ hm hp
    omega
   have hL:=hw.len
   refine Tot.b (Tot.m (R:=λr=>0<r.length) (Tot.l (λs2:List Bs×Int=>(0≤s2.2∧s2.2<l.length)∧0<s2.1.length∧s2.1.length+gw w s2.2≤10) (λs2=>(gw w s2.2).toNat) ⟨⟨h1,h4⟩,by simp,by have:=hw.rng s h1;simp;omega⟩ (by have:=hw.rng s h1;dsimp only;omega) λs2 ⟨d1,d2,d3⟩=>?_) λr hr=>Tot.sb hr)
   unfold uy
   obtain⟨hx1,hx2,hx3⟩:=hG s2.2 d1
   refine Tot.b (Tot.ge (nj (by omega)) (Tot.cd (λd4=>Tot.b (Tot.ge hx1 (Tot.b (Tot.m (R:=λy=>y∈G s2.2∧0<gw w y∧gw w y<gw w s2.2) ?_ λy hy=>?_)))) λ_=>Tot.sb d2))
   ·refine Tot.lm (G s2.2) (λs3=>s3.2) (λ_=>True) (λs3:Int×Int=>s3.2≤(G s2.2).length∧(s3.1<0∨s3.1∈G s2.2∧0<gw w s3.1)∧∀j∈ (G s2.2).take s3.2.toNat,0<gw w j→0≤s3.1∧gw w s3.1≤gw w j) (by omega) rfl ⟨by simp,by simp,by simp⟩ λs3 f1 ⟨f2,f3,f4⟩ _=>?_
    unfold uz
    refine Tot.cd (λf5=>?_) λf5=>Tot.sb ?_
    ·obtain⟨j,hj,hjm⟩: ∃i,aq (G s2.2) s3.2=some i∧i∈G s2.2:=Tot.gy (Q:=λi=>i∈G s2.2) ⟨f1,f5⟩ λ_ _ h=>h
     have hjr:=hx3 j hjm
     have e: (s3.2+1).toNat=s3.2.toNat+1:=by omega
     have hbr: ¬s3.1<0→0≤s3.1∧s3.1<l.length:=λh=>f3.elim (λh'=>(h h').elim) λh'=>hx3 _ h'.1
     refine Tot.b (Tot.m (R:=λb=>(b=true→0<gw w j∧(s3.1<0∨gw w j≤gw w s3.1))∧(b=false→0<gw w j→0≤s3.1∧gw w s3.1≤gw w j)) (Tot.b (Tot.ge hj (Tot.b (Tot.ge (nj (by omega)) (Tot.cd (λq1=>Tot.cd (λq2=>Tot.s (by simp;omega)) λq2=>Tot.b (Tot.ge hj (Tot.b (Tot.ge (nj (by omega)) (Tot.b (Tot.ge (nj (by have:=hbr q2;omega)) (Tot.s (by simp;omega)))))))) λq1=>Tot.s (by simp;omega)))))) λb hb=>Tot.c (λq=>?_) λq=>?_)
     ·have q:=hb.1 q
      refine Tot.b (Tot.ge hj (Tot.i (by omega) (Tot.sn ⟨f5,rfl,λ_ _=>trivial,by dsimp only;omega,.inr ⟨hjm,q.1⟩,λi hi hp=>?_⟩)))
      rw[e,tk1 hj] at hi
      rcases List.mem_append.1 hi with hi|hi
      ·have:=f4 i hi hp
       dsimp only;omega
      rw[List.mem_singleton.1 hi];dsimp only;omega
     have q:=hb.2 q
     refine Tot.i (by omega) (Tot.sn ⟨f5,rfl,λ_ _=>trivial,by dsimp only;omega,f3,λi hi hp=>?_⟩)
     rw[e,tk1 hj] at hi
     rcases List.mem_append.1 hi with hi|hi
     ·exact f4 i hi hp
     rw[List.mem_singleton.1 hi] at hp ⊢;exact q hp
    obtain⟨i,hi,hv⟩:=hw.c s2.2 d1 d4
    have:=cu f5 f4 i hi (by omega)
    rcases f3 with f3|f3
    ·omega
    exact⟨f3.1,f3.2,by omega⟩
   have:=hx3 y hy.1
   refine Tot.b (Tot.gy (by omega) λc' _ _=>Tot.n (by omega) (Tot.sn ⟨⟨by dsimp only;omega,by simp,by simp;omega⟩,by dsimp only;omega⟩))
  have:=h c hc
  rw[g1] at this;injection this with this;exact(e this).elim
 unfold ox
 refine Tot.b (hb.m λb h=>?_)
 cases b with
 |inl r=>exact Tot.s (λe=>by dsimp only at h;omega)
 |inr _=>exact Tot.s (λ_ i h0 hc hi=>h i ⟨h0,hi⟩ hc)
def Rn (n:Nat) (l:Cw):Prop:=l.length≤6∧∃G:Int→CD,(∀i:Int,0≤i∧i<l.length→(∀j∈G i,0≤j∧j<l.length)∧∀c,aq l i=some c→∀m,InG (λa=>∃j,cp n l a=some j∧0≤j∧j∈G i) m c)∧∀i:Int,0≤i∧i<l.length→∀m,m+1≤l.length→¬Pt G (m+1) i i
instance {l:List cy} {p:List Bs}:Tt (qG n l p) (10000000000001<n∧CsOK l∧p.length≤10000000000000) λe=>e=0→Rn n l:=⟨λ ⟨hn,hl,hp⟩=>by
 haveI: ∀xs:List Bs,Tt (av (pL n p xs) n (0:Int)) (xs.length≤10000000000000) λ_=>True:=λxs=>⟨λh=>Tot.li (λs=>s) (λ_=>True) xs.length (by omega) (by simp) λs h1 _=>by unfold pL;exact tgo⟩
 have h3: ∀xs:List Bs,xs.length≤10000000000000→Tot (av (pM n l xs) n (0:Int)) λb=>match b with|.inl _=>True|.inr _=>∀y∈xs,∃j,cp n l y=some j∧0≤j:=λxs hx=>Tot.lm xs (λs=>s) (λy=>∃j,cp n l y=some j∧0≤j) (λ_=>True) (by omega) rfl trivial λs h1 _ hm=>by
  unfold pM
  refine Tot.cd (λh3=>Tot.b (Tot.gm ⟨h1,h3⟩ λy hy ht=>?_)) λh3=>Tot.sb (cu h3 hm)
  obtain⟨j,g1,g2⟩:=Tt.t (x:=cp n l y) ⟨hn,hl.1⟩
  exact Tot.b (Tot.ge g1 (Tot.cd (λ_=>Tot.sb trivial) λh=>Tot.i (by omega) (Tot.sn ⟨h3,rfl,ht hm ⟨j,g1,by omega⟩,trivial⟩)))
 have h1:Tot (av (pK n l p) n (0:Int)) λb=>match b with|.inl e=>e≠0|.inr _=>∀i:Int,0≤i∧i<l.length→∀c,aq l i=some c→cp n l c.aE=some i∧c.aA≠4∧∀m,InG (λa=>∃j,cp n l a=some j∧0≤j) m c:=by
  have:=hl.1
  refine Tot.l (λs=>0≤s∧s≤l.length∧∀i:Int,0≤i∧i<s→∀c,aq l i=some c→cp n l c.aE=some i∧c.aA≠4∧∀m,InG (λa=>∃j,cp n l a=some j∧0≤j) m c) (λs=>(l.length-s).toNat) ⟨by simp,by omega,λi hi=>by omega⟩ (by omega) λs ⟨g1,g2,g3⟩=>?_
  unfold pK
  refine Tot.cd (λg4=>Tot.b (Tot.gy ⟨g1,g4⟩ λc hc hm=>?_)) λg4=>Tot.sb λi hi=>g3 i (by omega)
  have hz:=hl.2 c hm
  have hp':_∧_:=Sz.p c
  obtain⟨a,d1,d2⟩:=Tt.t (x:=cp n l c.aE) ⟨hn,hl.1⟩
  refine Tot.b (Tot.ge d1 (Tot.cn (Tot.cd (λe=>?_) λe=>Tot.sb (by simp))))
  subst e
  refine Tot.b (Tot.m (R:=λb=>b=false→c.aA≠4) (Tot.cl (by omega) λ_ _=>Tot.cn (Tot.c (λ_=>Tot.cd (λ_=>Tot.s (by simp)) λq=>Tot.b ((sh15 hn n c 6 (by omega) (by omega) hz (by omega)).m λ_ _=>Tot.s (λ_=>q))) λ_=>Tot.s (by simp))) λb hb=>Tot.c (λ_=>Tot.sb (by simp)) λq=>?_)
  have hk:=hb q
  refine Tot.cl ⟨hn,hz⟩ λxs hx=>Tot.cl hx λb _=>?_
  cases b with
  |inl _=>exact Tot.sb (by simp)
  |inr _=>
   refine Tot.cl ⟨hn,hz⟩ λys hy=>Tot.b ((h3 ys (by omega)).m λb hb=>?_)
   cases b with
   |inl _=>exact Tot.sb (by simp)
   |inr _=>
    refine Tot.i (by omega) (Tot.sn ⟨⟨by omega,by omega,λi hi c' hc'=>?_⟩,by omega⟩)
    by_cases e:i=a
    · subst e
      rw[hc] at hc';injection hc' with hc';subst hc'
      exact⟨d1,hk,λm=>oV hb m (hy.2 m)⟩
    · exact g3 i (by omega) c' hc'
 unfold qG
 refine Tot.cd (λ_=>Tot.s (by simp)) λh6=>Tot.b (h1.m λb hb=>?_)
 cases b with
 |inl e=>exact Tot.s (λh=>(hb h).elim)
 |inr _=>
  have hx:=λ (i:Int) (hi:0≤i∧i<l.length)=>next15 (n:=n) hn hl hi
  have hG: ∀i:Int,0≤i∧i<l.length→dW n l i=some ((dW n l i).getD [])∧((dW n l i).getD []).length≤10000000000000∧∀j∈ (dW n l i).getD [],0≤j∧j<l.length:=λi hi=>by
   obtain⟨xs,e,q1,q2,_⟩:=hx i hi
   rw[e];exact⟨rfl,q1,q2⟩
  refine Tot.b ((Circle15 hn (by omega) hG).m λr hr=>Tot.cd (λ_=>Tot.s (by simp)) λh=>Tot.s λ_=>⟨by omega,λi=>(dW n l i).getD [],λi hi=>⟨(hG i hi).2.2,λc hc m=>?_⟩,λi hi=>hr (by omega) i hi.1 (λc hc=>(hb i hi c hc).1) hi.2⟩)
  obtain⟨xs,e,_,_,q3⟩:=hx i hi
  have q:=hb i hi c hc
  simp only[e]
  exact oV (λa ⟨⟨j,z1,z2⟩,⟨j',z3,z4⟩⟩=>by rw[z1] at z3;injection z3 with z3;subst z3;exact⟨j,z1,z2,z4 z2⟩) m (InG_and m (q.2.2 m) (q3 c hc q.2.1 m))⟩
def Kn (L:Nat) (a b c:CE):Prop:=a.length=L∧b.length=L∧c.length=L
theorem part15 {l:Cw} {gs:Cp} {X:CD} {W:Cw→Int→Cp→CE→CE→CE→Option (CE×CE×CE)} (hn:10000000000001<n) (hg:GsOK gs) (hl:l.length≤6) (hX: ∀j∈X,0≤j∧j<l.length)
 (hW: ∀j∈X,∀a b c,Kn l.length a b c→Tot (W l j gs a b c) λr=>Kn l.length r.1 r.2.1 r.2.2): ∀ (k:Nat) (x:cy) (a b c:CE),dsz (bb x)<k→dsz (bb x)≤10000000000000→InG (λa=>∃j,cp n l a=some j∧0≤j∧j∈X) k x→Kn l.length a b c→Tot (gO n W k l x gs a b c) λr=>Kn l.length r.2.2.1 r.2.2.2.1 r.2.2.2.2
 |0,x,_,_,_,h,_,_,_=>by omega
 |k+1,x,a,b,c,hk,hz,hi,hK=>by
  have hp:_∧_:=Sz.p x
  unfold gO pT
  refine Tot.cd (λ_=>Tot.cl ⟨hn,by omega,hg⟩ λu hu=>Tot.cl ⟨hn,by omega,hg⟩ λv hv=>Tot.b (Tot.m (R:=λ_=>True) (Tot.cl ⟨hn,hu,hv⟩ λ_ _=>tgo) λ_ _=>Tot.s hK)) λ_=>Tot.cd (λh4=>?_) λh4=>?_
  ·obtain⟨j,e,h0,hm⟩:=hi.1 h4
   have hj:=hX j hm
   refine Tot.b (Tot.ge e (Tot.b ((hW j hm a b c hK).m λr hr=>?_)))
   obtain⟨r1,r2,r3⟩:=hr
   exact Tot.b (Tot.gy (by omega) λ_ _ _=>Tot.b (Tot.gy (by omega) λ_ _ _=>Tot.s ⟨r1,r2,r3⟩))
  refine Tot.b (Tot.m (R:=λr=>Kn l.length r.2.2.2.1 r.2.2.2.2.1 r.2.2.2.2.2) (Tot.li (λs=>s.2.2.2.1) (λs=>Kn l.length s.2.2.2.2.1 s.2.2.2.2.2.1 s.2.2.2.2.2.2) x.fL.length (by omega) ⟨by simp,hK⟩ λs h1 h2=>?_) λr hr=>Tot.cd (λ_=>Tot.s hr) λ_=>Tot.cd (λ_=>Tot.s hr) λ_=>Tot.s hr)
  unfold uB
  refine Tot.cd (λh3=>Tot.b (Tot.gx ⟨h1,h3⟩ λy _ hy hs hq=>?_)) λ_=>Tot.sb h2
  simp only[Sz.f,zz,zl] at hs
  refine Tot.b ((part15 hn hg hl hX hW k y _ _ _ (by omega) (by omega) (hi.2 h4 y hy) h2).m λr hr=>Tot.b (Tot.m (R:=λ_=>True) tgo λ_ _=>Tot.b (Tot.m (R:=λ_=>True) tgo λ_ _=>Tot.c (λ_=>?_) λ_=>?_)))
  all_goals exact Tot.i (by omega) (Tot.sn ⟨h3,by dsimp only;omega,hr⟩)
theorem whole15 {l:Cw} {gs:Cp} {G:Int→CD} (hn:10000000000001<n) (hg:GsOK gs) (hl:CsOK l) (h6:l.length≤6)
 (hG: ∀i:Int,0≤i∧i<l.length→(∀j∈G i,0≤j∧j<l.length)∧∀c,aq l i=some c→∀m,InG (λa=>∃j,cp n l a=some j∧0≤j∧j∈G i) m c) (hc: ∀i:Int,0≤i∧i<l.length→∀m,m+1≤l.length→¬Pt G (m+1) i i):
 ∀ (k:Nat) (rest vs:CD) (i:Int) (a b c:CE),rest.length<k→vs.length+rest.length≤l.length→(∀j:Int,0≤j∧j<l.length→j∈vs∨j∈rest)→(∀v∈vs,∃m,m+1≤vs.length∧Pt G (m+1) v i)→0≤i∧i<l.length→Kn l.length a b c→Tot (ij n k l i gs a b c) λr=>Kn l.length r.1 r.2.1 r.2.2
 |0,rest,_,_,_,_,_,h,_,_,_,_,_=>by omega
 |k+1,rest,vs,i,a,b,c,hk,hL,hm,hp,hi,hK=>by
  have hr:i∈rest:=(hm i hi).elim (λh=>by
   obtain⟨m,h1,h2⟩:=hp i h
   exact(hc i hi m (by omega) h2).elim) id
  have hlen:=List.length_erase_of_mem hr
  have h0:=List.length_pos_of_mem hr
  unfold ij rK
  refine Tot.b (Tot.gy (by have:=hK.1;omega) λb _ _=>Tot.c (λ_=>Tot.s hK) λ_=>Tot.b (Tot.gy hi λx hx hxm=>Tot.b ((part15 hn hg h6 (hG i hi).1 (λj hj a b c hK'=>whole15 hn hg hl h6 hG hc k (rest.erase i) (i::vs) j a b c (by omega) (by simp;omega) (λj' hj'=>?_) (λv hv=>?_) ((hG i hi).1 j hj) hK') n x _ _ _ (by have:=hl.2 x hxm;omega) (hl.2 x hxm) ((hG i hi).2 x hx n) hK).m λr hr=>?_)))
  ·by_cases e:j'=i
   ·exact .inl (by simp[e])
   exact(hm j' hj').elim (λh=>.inl (List.mem_cons_of_mem _ h)) λh=>.inr ((List.mem_erase_of_ne e).2 h)
  ·rcases List.mem_cons.1 hv with hv|hv
   ·exact⟨0,by simp,hv▸ ⟨j,hj,rfl⟩⟩
   obtain⟨m,h1,h2⟩:=hp v hv
   exact⟨m+1,by simp;omega,Pt_app hj _ h2⟩
  obtain⟨r1,r2,r3⟩:=hr
  exact Tot.b (Tot.gy (by omega) λ_ _ _=>Tot.b (Tot.gy (by omega) λ_ _ _=>Tot.b (Tot.gy (by omega) λ_ _ _=>Tot.s ⟨by simp[r1],by simp[r2],by simp[r3]⟩)))
instance {l:List cy} {gs:List aG}:Tt (ww n l gs) (10000000000001<n∧CsOK l∧GsOK gs) λr=>r.1.length≤6:=⟨λ ⟨hn,hl,hg⟩=>by
 have hg1:=hg.1
 unfold ww
 refine Tot.b (Tot.m (R:=λr=>r.length≤10000000000000) (Tot.li (λs=>s.2) (λs=>s.2≤gs.length∧s.1.length≤s.2) gs.length (by omega) (by simp) λs h1 h2=>by unfold yh;exact tgo) λns hns=>Tot.cl ⟨hn,hl,hns⟩ λe he=>Tot.cn (Tot.cd (λh=>?_) λ_=>Tot.s (by simp)))
 obtain⟨h6,G,hG,hc⟩:=he h
 refine Tot.b (Tot.m (R:=λy=>Kn l.length y.done y.yes y.bad) (Tot.n (by omega) (Tot.n (by omega) (Tot.n (by omega) (Tot.s ⟨by simp,by simp,by simp⟩)))) λy hy=>Tot.b (Tot.m (R:=λb=>match b with|.inl _=>True|.inr r=>r.1.length≤6) (Tot.li (λs=>s.2.1) (λs=>s.2.1≤l.length∧s.1.length≤s.2.1∧Kn l.length s.2.2.1 s.2.2.2.1 s.2.2.2.2) l.length (by omega) ⟨by simp,by simp,by simp,hy⟩ λs h1 ⟨h2,h3,h4⟩=>?_) λb hb=>?_))
 · unfold yi
   refine Tot.cd (λh5=>Tot.b ((whole15 hn hg hl h6 hG hc n ((List.range l.length).map Int.ofNat) [] s.2.1 _ _ _ (by simp;omega) (by simp) (λj hj=>.inr (List.mem_map.2 ⟨j.toNat,List.mem_range.2 (by omega),by simp;omega⟩)) (λv hv=>by simp at hv) ⟨h1,h5⟩ h4).m λr hr=>?_)) λ_=>Tot.sb (by dsimp only;omega)
   have r':=hr
   obtain⟨r1,r2,r3⟩:=hr
   exact Tot.b (Tot.gy (by omega) λ_ _ _=>Tot.c (λ_=>Tot.sb trivial) λ_=>Tot.b (Tot.gy ⟨h1,h5⟩ λx _ _=>Tot.b (Tot.gy (by omega) λ_ _ _=>Tot.n (by omega) (Tot.i (by omega) (Tot.sn ⟨h5,by dsimp only;omega,by dsimp only;omega,by simp;omega,r'⟩)))))
 · cases b with
   |inl _=>exact Tot.s (by simp)
   |inr r=>exact Tot.s hb⟩
open Go.Ck
abbrev Hy_ref16_Uses (rec_ref16_Uses:bZ→Option (List bZ)):Prop:=∀ (d0:bZ) (z:Zs),OkC Tryz.prog (bg.facts d0 z) [] 160 [bg.ag d0 z] (rec_ref16_Uses d0) (λr y=>⟨(y 0).sl r.length,[],[.sli 6 aN (y 0).A (y 0).c r]⟩)
def xc (n:Nat) (rec_ref16_Uses:bZ→Option CA) (d0:bZ) (K1:CA×Int):Option (Lp (CA×Int) CA):=bif decide (K1.2<(d0.fL.length:Int)) then(aq d0.fL K1.2).bind λX1=>(rec_ref16_Uses X1).bind λX3=>ar ((K1.1.length+X3.length)*88≤140737488355328)<|ar (inR .i64 (K1.2+1))<|some (.nx (K1.1++X3,K1.2+1)) else some (.br K1.1)
def tQ (n:Nat) (rec_ref16_Uses:bZ→Option CA) (d0:bZ):Option CA:=(bif decide (d0.aA=3) then some (true) else bif decide (d0.aA=4) then some (true) else some (decide (d0.aA=6)):Option Bool).bind λG1=>(bif G1 then ar ((([]:CA).length+1)*88≤140737488355328)<|some (([]:CA)++[d0]) else some ([]:CA):Option CA).bind λG2=>(av (xc n rec_ref16_Uses d0) n (G2,(0:Int))).bind λG3=>some (G3)
theorem BW (n:Nat) (rec_ref16_Uses:bZ→Option CA) (hrec_ref16_Uses:Hy_ref16_Uses rec_ref16_Uses) (d0:bZ) (z:Zs):oK (bg.facts d0 z) [] 160 [bg.ag d0 z] (tQ n rec_ref16_Uses d0) (λr y=>⟨(y 0).sl r.length,[],[sX 6 aN (y 0) r]⟩):=
 fn 38 Tryz.func160 (jn (.reg 2) [bx 1] (λG1 _ _=>{L:=[(17,.bool G1)],ks:=[1,3]}) (bs [K 1 0] 8 (rt []) (bs [K 1 0] 13 (rt []) (rt [K 1 0]))) (kA λ_=>jn .no [] (λG2 z _=>{L:=[(3,(z 1).sl G2.length)],ks:=[1],E:=[(8,rX 176 6 (z 1) G2)],F:=[(7,qX 6 aN (z 1) G2)]}) (br [] (nd (λO1=>rt [K 1 0,ao 2,nr 3 4 176 bg,lk 2 5 bg [(d0,[0])],ap (ys:=[d0]) 3 4 5 6 bg O1] {is:=[6],js:=[3]})) (rt [nr 2 3 176 bg] {is:=[3],js:=[2]})) (kA λ_=>lp [] {is:=[7],js:=[8]} (λK1 z _=>{L:=[(3,(z 1).sl K1.1.length),(4,.int .i64 K1.2)],ks:=[1],E:=[(10,rX 176 6 (z 1) K1.1)],x:=[8],F:=[(9,qX 6 aN (z 1) K1.1)]}) (λG3 z _=>{e:=.exit 0,L:=[(3,(z 1).sl G3.length)],E:=[(16,rX 176 6 (z 1) G3)],x:=[8],F:=[(15,qX 6 aN (z 1) G3)]}) (λK1=>br [K 1 5] (ob (λX1 X2=>ob (λ_ X4=>nd (λO2=>nd (λO3=>rt [K 1 5,I 0 11 bg X2,K 11 0,C (hrec_ref16_Uses X1) X4 [12] [] 13,ap 10 9 13 14 bg O2,wr 28 O3] {is:=[14],js:=[10]}))))) (rt [] {is:=[9],js:=[10]})) (kA λ_=>rt [ri 16 15 17] {is:=[17]}))))
def gY (n:Nat):Nat→bZ→Option CA|0=>λ_=>none|k+1=>tQ n (gY n k)
def tP (n:Nat) (d0:bZ):Option CA:=gY n n d0
theorem yn (n:Nat) (d0:bZ) (z:Zs):oK (bg.facts d0 z) [] 160 [bg.ag d0 z] (tP n d0) (λr y=>⟨(y 0).sl r.length,[],[sX 6 aN (y 0) r]⟩):=by
 have key: ∀ (k:Nat) (d0:bZ) (z:Zs),oK (bg.facts d0 z) [] 160 [bg.ag d0 z] (gY n k d0) (λr y=>⟨(y 0).sl r.length,[],[sX 6 aN (y 0) r]⟩):=by
  intro k
  induction k with
  |zero=>intros;exact OkC.none
  |succ k ih=>exact BW n (gY n k) ih
 exact key n d0 z
def qa (n:Nat) (d0:cI) (d1:Bs) (K1:Int):Option (Lp Int (Sum Unit Unit)):=bif decide (K1<(d0.bQ.length:Int)) then(aq d0.bQ K1).bind λX1=>bif decide (X1.aE=d1) then some (.br (.inl ())) else ar (inR .i64 (K1+1))<|some (.nx (K1+1)) else some (.br (.inr ()))
def iY (n:Nat) (d0:cI) (d1:Bs):Option Bool:=(av (qa n d0 d1) n (0:Int)).bind λQ2=>(match Q2 with|.inl G1=>some (true)|.inr G2=>some (false))
theorem mj (n:Nat) (d0:cI) (d1:Bs) (z:Zs):oK (bq.facts d0 z) [] 155 [bq.ag d0 z,S d1] (iY n d0 d1) (λr y=>⟨.bool r,[],[]⟩):=
 fn 21 Tryz.func155 (lp [bx 4] {} (λK1 _ _=>{L:=[(5,.int .i64 K1)],ks:=[1,2]}) (λx z b=>match x with|.inl G1=>{e:=.ret,L:=[(4,.bool true)]}|.inr G2=>{e:=.exit 0}) (λK1=>br [K 4 0] (ob (λ_ X2=>br [K 4 0,I 0 5 iw X2,K 5 0] (rt []) (nd (λO1=>rt [wr 12 O1])))) (rt [])) (kS (kA λ_=>rt []) (kA λ_=>rt [])))
def qb (n:Nat) (d0:cI) (X1:CA) (K1:Int):Option (Lp Int (Sum Unit Unit)):=bif decide (K1<(X1.length:Int)) then(aq X1 K1).bind λX3=>bif !(decide (X3.aA=3)) then some (.br (.inl ())) else(aq X1 K1).bind λX5=>(iY n d0 X5.aE).bind λX7=>bif !X7 then some (.br (.inl ())) else ar (inR .i64 (K1+1))<|some (.nx (K1+1)) else some (.br (.inr ()))
def mJ (n:Nat) (d0:cI) (d1:bZ):Option Int:=(tP n d1).bind λX1=>(av (qb n d0 X1) n (0:Int)).bind λQ3=>(match Q3 with|.inl G1=>some (160:Int)|.inr G2=>some (0:Int))
theorem xd (n:Nat) (d0:cI) (d1:bZ) (z:Zs):oK (bq.facts d0 z++bg.facts d1 (sh 4 z)) [] 154 [bq.ag d0 z,bg.ag d1 (sh 4 z)] (mJ n d0 d1) (λr y=>⟨.int .i64 r,[],[]⟩):=
 fn 31 Tryz.func154 (ob (λ_ X2=>lp [bx 5,bx 6,K 6 0,C (yn n d1) X2 [4] [] 7] {} (λK1 _ _=>{L:=[(6,.int .i64 K1)],ks:=[2,5]}) (λx z b=>match x with|.inl G1=>{e:=.ret,L:=[(4,.int .i64 160)]}|.inr G2=>{e:=.exit 0}) (λK1=>br [] (ob (λ_ X4=>bh (.reg 5) [Ie 7 8 bg X4] (λB2=>rt [ch [] [(21,⟨cB B2⟩)],X 9,K 8 0,cd true,cd true,cd true,cd true,cd true]) (λB2=>ob (λX5 X6=>ob (λ_ X8=>br [Ie 7 11 bg X6,ch [] [(21,⟨cB B2⟩)],X 9,K 8 0,K 5 0,X 12,K 11 3,C (mj n d0 X5.aE) X8 [0,1,2,3] [] 14] (rt []) (nd (λO1=>rt [wr 14 O1]))))))) (rt [])) (kS (kA λ_=>rt []) (kA λ_=>rt []))))
def rN (n:Nat) (d0:cI) (d1:Bs) (K1:Int):Option (Lp Int (Sum Unit Unit)):=bif decide (K1<(d0.dL.length:Int)) then(aq d0.dL K1).bind λX1=>bif decide (X1.aE=d1) then some (.br (.inl ())) else ar (inR .i64 (K1+1))<|some (.nx (K1+1)) else some (.br (.inr ()))
def jZ (n:Nat) (d0:cI) (d1:Bs):Option Bool:=(av (rN n d0 d1) n (0:Int)).bind λQ2=>(match Q2 with|.inl G1=>some (true)|.inr G2=>some (false))
theorem oA (n:Nat) (d0:cI) (d1:Bs) (z:Zs):oK (bq.facts d0 z) [] 98 [bq.ag d0 z,S d1] (jZ n d0 d1) (λr y=>⟨.bool r,[],[]⟩):=
 fn 21 Tryz.func98 (lp [bx 4] {} (λK1 _ _=>{L:=[(5,.int .i64 K1)],ks:=[1,2]}) (λx z b=>match x with|.inl G1=>{e:=.ret,L:=[(4,.bool true)]}|.inr G2=>{e:=.exit 0}) (λK1=>br [K 4 1] (ob (λ_ X2=>br [K 4 1,I 1 5 bJ X2,K 5 0] (rt []) (nd (λO1=>rt [wr 12 O1])))) (rt [])) (kS (kA λ_=>rt []) (kA λ_=>rt [])))
abbrev xu (rec_ref16_condition:cI→cy→Option Int):Prop:=∀ (d0:cI) (d1:cy) (z:Zs),OkC Tryz.prog (bq.facts d0 z++bJ.facts d1 (sh 4 z)) [] 96 [bq.ag d0 z,bJ.ag d1 (sh 4 z)] (rec_ref16_condition d0 d1) (λr y=>⟨.int .i64 r,[],[]⟩)
def ka (n:Nat) (rec_ref16_condition:cI→cy→Option Int) (d0:cI) (d1:cy) (K1:Int):Option (Lp Int (Sum Int Unit)):=bif decide (K1<(d1.fL.length:Int)) then(aq d1.fL K1).bind λX7=>(rec_ref16_condition d0 X7).bind λX9=>bif !(decide (X9=0)) then some (.br (.inl X9)) else ar (inR .i64 (K1+1))<|some (.nx (K1+1)) else some (.br (.inr ()))
def kI (n:Nat) (rec_ref16_condition:cI→cy→Option Int) (d0:cI) (d1:cy):Option Int:=bif decide (d1.aA=0) then(mJ n d0 d1.fA).bind λX1=>bif !(decide (X1=0)) then some (X1) else(mJ n d0 d1.fB).bind λX3=>some (X3) else(bif decide (d1.aA=4) then(jZ n d0 d1.aE).bind λX5=>some (!X5) else some (false):Option Bool).bind λG1=>bif G1 then some (150:Int) else(av (ka n rec_ref16_condition d0 d1) n (0:Int)).bind λQ3=>(match Q3 with|.inl G2=>some (G2)|.inr G3=>some (0:Int))
theorem wJ (n:Nat) (rec_ref16_condition:cI→cy→Option Int) (hrec_ref16_condition:xu rec_ref16_condition) (d0:cI) (d1:cy) (z:Zs):oK (bq.facts d0 z++bJ.facts d1 (sh 4 z)) [] 96 [bq.ag d0 z,bJ.ag d1 (sh 4 z)] (kI n rec_ref16_condition d0 d1) (λr y=>⟨.int .i64 r,[],[]⟩):=
 fn 49 Tryz.func96 (br [bx 7,bx 8,K 8 1] (ob (λ_ X2=>br [K 7 0,K 8 2,C (xd n d0 d1.fA) X2 [0,1,2,3,4] [] 9] (rt []) (ob (λ_ X4=>rt [K 7 0,K 8 8,C (xd n d0 d1.fB) X4 [0,1,2,3,5] [] 9])))) (jn (.reg 6) [] (λG1 _ _=>{L:=[(31,.bool G1)],ks:=[2,3]}) (bs [K 8 1] 25 (ob (λ_ X6=>rt [K 7 0,K 8 0,C (oA n d0 d1.aE) X6 [0,1,2,3] [] 9])) (rt [])) (kA λ_=>br [] (rt []) (lp [] {} (λK1 _ _=>{L:=[(6,.int .i64 K1)],ks:=[2,3]}) (λx z b=>match x with|.inl G2=>{e:=.ret,L:=[(4,.int .i64 G2)]}|.inr G3=>{e:=.exit 0}) (λK1=>br [K 8 14] (ob (λX7 X8=>ob (λ_ X10=>br [Ie 6 9 bJ X8,K 7 0,K 8 14,X 10,K 9 0,C (hrec_ref16_condition d0 X7) X10 [0,1,2,3,11,12,13] [] 14] (rt []) (nd (λO1=>rt [wr 38 O1]))))) (rt [])) (kS (kA λ_=>rt []) (kA λ_=>rt []))))))
def cZ (n:Nat):Nat→cI→cy→Option Int|0=>λ_ _=>none|k+1=>kI n (cZ n k)
def nG (n:Nat) (d0:cI) (d1:cy):Option Int:=cZ n n d0 d1
theorem yo (n:Nat) (d0:cI) (d1:cy) (z:Zs):oK (bq.facts d0 z++bJ.facts d1 (sh 4 z)) [] 96 [bq.ag d0 z,bJ.ag d1 (sh 4 z)] (nG n d0 d1) (λr y=>⟨.int .i64 r,[],[]⟩):=by
 have key: ∀ (k:Nat) (d0:cI) (d1:cy) (z:Zs),oK (bq.facts d0 z++bJ.facts d1 (sh 4 z)) [] 96 [bq.ag d0 z,bJ.ag d1 (sh 4 z)] (cZ n k d0 d1) (λr y=>⟨.int .i64 r,[],[]⟩):=by
  intro k
  induction k with
  |zero=>intros;exact OkC.none
  |succ k ih=>exact wJ n (cZ n k) ih
 exact key n d0 d1 z
def gZ (n:Nat) (d0:wl):Option Bool:=some (decide (d0.bB=[83,116,97,99,107]))
theorem iX (n:Nat) (d0:wl) (z:Zs):oK (gT.facts d0 z) [] 159 [gT.ag d0 z] (gZ n d0) (λr y=>⟨.bool r,[],[]⟩):=
 fn 6 Tryz.func159 (rt [bx 3,K 3 1])
def qK (n:Nat) (d0:wl):Option Bool:=(gZ n d0).bind λX1=>bif X1 then some (decide ((d0.cO.length:Int)=1)) else(gV n d0.bB).bind λX3=>bif decide (X3.2=0) then some (decide ((d0.cO.length:Int)=0)) else some (false)
theorem ref16_typed_C (n:Nat) (d0:wl) (z:Zs):oK (gT.facts d0 z) [] 156 [gT.ag d0 z] (qK n d0) (λr y=>⟨.bool r,[],[]⟩):=
 fn 25 Tryz.func156 (ob (λ_ X2=>br [bx 3,K 3 0,C (iX n d0) X2 [0,1,2] [] 4] (rt [K 3 6]) (ob (λ_ X4=>bs [K 3 1,C (jE n d0.bB) X4 [] [] 4] 19 (rt [K 3 6]) (rt [])))))
def jF (n:Nat) (d0:cI) (d1:Bs) (K1:Int×wl):Option (Lp (Int×wl) (Sum wl wl)):=bif decide (K1.1<(d0.eR.length:Int)) then(aq d0.eR K1.1).bind λX1=>bif decide (X1.ci=d1) then(aq d0.eR K1.1).bind λX3=>some (.br (.inl X3)) else ar (inR .i64 (K1.1+1))<|some (.nx (K1.1+1,K1.2)) else some (.br (.inr K1.2))
def iV (n:Nat) (d0:cI) (d1:Bs):Option (wl×Bool):=(av (jF n d0 d1) n ((0:Int),z_TC0)).bind λQ3=>(match Q3 with|.inl G1=>some (G1,(true))|.inr G2=>some (z_TC0,(false)))
theorem tO (n:Nat) (d0:cI) (d1:Bs) (z:Zs):oK (bq.facts d0 z) [] 157 [bq.ag d0 z,S d1] (iV n d0 d1) (λr y=>⟨.tuple #[gT.ag r.1 y,.bool r.2],[],gT.facts r.1 y⟩):=
 fn 28 Tryz.func157 (lp [bx 4,al 5,nf 6 7 dJ,nf 7 1 Dat.str,nf 8 4 ba] {is:=[6,7,8]} (λK1 z _=>{L:=[(6,.int .i64 K1.1)],ks:=[1,2,4],o:=[(5,.cells (gT.cells K1.2 z).toArray 125 (0,0))],F:=nums 9 (gT.facts K1.2 z)}) (λx z b=>match x with|.inl G1=>{e:=.ret,L:=[(5,.bool true)],ks:=[4],o:=[(5,.cells (gT.cells G1 z).toArray 125 (0,0))],F:=nums 20 (gT.facts G1 z)}|.inr G2=>{e:=.exit 0,ks:=[4],o:=[(5,.cells (gT.cells G2 z).toArray 125 (0,0))],F:=nums 20 (gT.facts G2 z)}) (λK1=>br [K 4 2] (ob (λ_ X2=>br [K 4 2,I 2 12 gT X2,K 12 0] (ob (λ_ X4=>rt [K 4 2,I 2 16 gT X4,K 16 0,Sn 5] {is:=[17,18,19]})) (nd (λO1=>rt [wr 13 O1] {is:=[9,10,11]})))) (rt [] {is:=[9,10,11]})) (kS (kA λ_=>rt [] {is:=[20,21,22],rk:=[5,0]}) (kA λ_=>rt [Sn 5,nf 23 7 dJ,nf 24 1 Dat.str,nf 25 4 ba] {is:=[23,24,25],rk:=[5,0]})))
def nE (n:Nat) (d0:cI) (d1:Bs) (K1:Int×TF0):Option (Lp (Int×TF0) (Sum TF0 TF0)):=bif decide (K1.1<(d0.bM.length:Int)) then(aq d0.bM K1.1).bind λX1=>bif decide (X1.aE=d1) then(aq d0.bM K1.1).bind λX3=>some (.br (.inl X3)) else ar (inR .i64 (K1.1+1))<|some (.nx (K1.1+1,K1.2)) else some (.br (.inr K1.2))
def oz (n:Nat) (d0:cI) (d1:Bs):Option (TF0×Bool):=(av (nE n d0 d1) n ((0:Int),(⟨([]:Bs),([]:Bs),z_TS0⟩:TF0))).bind λQ3=>(match Q3 with|.inl G1=>some (G1,(true))|.inr G2=>some ((⟨([]:Bs),([]:Bs),z_TS0⟩:TF0),(false)))
theorem BV (n:Nat) (d0:cI) (d1:Bs) (z:Zs):oK (bq.facts d0 z) [] 205 [bq.ag d0 z,S d1] (oz n d0 d1) (λr y=>⟨.tuple #[ir.ag r.1 y,.bool r.2],[],ir.facts r.1 y⟩):=
 fn 28 Tryz.func205 (lp [bx 4,al 5,nf 6 6 aN] {is:=[6]} (λK1 z _=>{L:=[(6,.int .i64 K1.1)],ks:=[1,2,4],o:=[(5,.cells (ir.cells K1.2 z).toArray 181 (0,0))],F:=nums 7 (ir.facts K1.2 z)}) (λx z b=>match x with|.inl G1=>{e:=.ret,L:=[(5,.bool true)],ks:=[4],o:=[(5,.cells (ir.cells G1 z).toArray 181 (0,0))],F:=nums 12 (ir.facts G1 z)}|.inr G2=>{e:=.exit 0,ks:=[4],o:=[(5,.cells (ir.cells G2 z).toArray 181 (0,0))],F:=nums 12 (ir.facts G2 z)}) (λK1=>br [K 4 3] (ob (λ_ X2=>br [K 4 3,I 3 8 ir X2,K 8 0] (ob (λ_ X4=>rt [K 4 3,I 3 10 ir X4,K 10 0,Sn 5] {is:=[11]})) (nd (λO1=>rt [wr 13 O1] {is:=[7]})))) (rt [] {is:=[7]})) (kS (kA λ_=>rt [] {is:=[12],rk:=[5,0]}) (kA λ_=>rt [Sn 5,nf 13 6 aN] {is:=[13],rk:=[5,0]})))
def wx (n:Nat) (d0:cI) (d1:bZ):Option Int:=bif decide (d1.aA=6) then(jZ n d0 d1.aE).bind λX1=>bif !X1 then some (150:Int) else some (0:Int) else bif decide (d1.aA=3) then(iV n d0 d1.aE).bind λX3=>(iY n d0 d1.aE).bind λX5=>bif !X5 then bif !X3.2 then some (160:Int) else(gZ n X3.1).bind λX7=>bif X7 then some (160:Int) else some (0:Int) else some (0:Int) else bif decide (d1.aA=4) then(iV n d0 d1.aE).bind λX9=>bif !X9.2 then some (160:Int) else(gZ n X9.1).bind λX11=>bif !X11 then(bif !(decide (d1.dQ=[65,114,110])) then some (!(decide (d1.dQ=[90,111,110,101]))) else some (false):Option Bool).bind λG1=>bif G1 then some (160:Int) else some (0:Int) else(bif !(decide ((X9.1.cO.length:Int)=1)) then some (true) else bif decide ((d1.dQ.length:Int)<8) then some (true) else ar (0≤(8:Int)∧(8:Int)≤d1.dQ.length)<|some (!(decide ((d1.dQ.take (8:Int).toNat)=[79,117,116,112,117,116,115,46]))):Option Bool).bind λG2=>bif G2 then some (160:Int) else((aq X9.1.cO (0:Int)).bind λX13=>ar (0≤(8:Int)∧(8:Int)≤d1.dQ.length)<|(oz n X13 (d1.dQ.drop (8:Int).toNat)).bind λX15=>some (X15.2):Option Bool).bind λG3=>bif !G3 then some (160:Int) else some (0:Int) else some (0:Int)
theorem ref16_one_C (n:Nat) (d0:cI) (d1:bZ) (z:Zs):oK (bq.facts d0 z++bg.facts d1 (sh 4 z)) [] 161 [bq.ag d0 z,bg.ag d1 (sh 4 z)] (wx n d0 d1) (λr y=>⟨.int .i64 r,[],[]⟩):=
 fn 93 Tryz.func161 (br [bx 5,bx 6,K 6 0] (ob (λ_ X2=>br [K 5 0,K 6 3,C (oA n d0 d1.aE) X2 [0,1,2,3] [] 7] (rt []) (rt []))) (br [] (ob (λX3 X4=>ob (λ_ X6=>bs [K 5 0,K 6 3,C (tO n d0 d1.aE) X4 [0,1,2,3] [] 7,al 10,Sn 10,K 5 0,K 6 3,C (mj n d0 d1.aE) X6 [0,1,2,3] [] 11] 34 (bs [] 37 (rt [cd true]) (ob (λ_ X8=>br [O 10,C (iX n X3.1) X8 [7,8,9] [] 11] (rt []) (rt [])))) (rt [cd false])))) (br [] (ob (λX9 X10=>br [K 5 0,K 6 3,C (tO n d0 d1.aE) X10 [0,1,2,3] [] 7,al 10,Sn 10] (rt []) (ob (λ_ X12=>br [O 10,C (iX n X9.1) X12 [7,8,9] [] 11] (jn (.reg 14) [] (λG1 _ _=>{L:=[(63,.bool G1)]}) (bs [K 6 4] 59 (rt [K 6 4]) (rt [])) (kA λ_=>br [] (rt []) (rt []))) (jn (.reg 17) [] (λG2 _ _=>{L:=[(79,.bool G2)],ks:=[3,7]}) (bs [O 10] 68 (rt []) (bs [K 6 4] 74 (rt []) (nd (λO1=>rt [K 6 4,tG O1])))) (kA λ_=>br [] (rt []) (jn (.reg 19) [] (λG3 _ _=>{L:=[(10,.bool G3)]}) (ob (λX13 X14=>nd (λO2=>ob (λ_ X16=>rt [Ie 9 11 bq X14,O 10,X 12,K 11 0,K 6 4,tF O2,C (BV n X13 (d1.dQ.drop (8:Int).toNat)) X16 [13,14,15,16] [] 17,al 18,Sn 18])))) (kA λ_=>br [] (rt []) (rt []))))))))) (rt []))))
def rP (n:Nat) (d0:cI) (X1:CA) (K1:Int):Option (Lp Int (Sum Int Unit)):=bif decide (K1<(X1.length:Int)) then(aq X1 K1).bind λX3=>(wx n d0 X3).bind λX5=>bif !(decide (X5=0)) then some (.br (.inl X5)) else ar (inR .i64 (K1+1))<|some (.nx (K1+1)) else some (.br (.inr ()))
def qd (n:Nat) (d0:cI) (d1:bZ):Option Int:=(tP n d1).bind λX1=>(av (rP n d0 X1) n (0:Int)).bind λQ3=>(match Q3 with|.inl G1=>some (G1)|.inr G2=>some (0:Int))
theorem yp (n:Nat) (d0:cI) (d1:bZ) (z:Zs):oK (bq.facts d0 z++bg.facts d1 (sh 4 z)) [] 99 [bq.ag d0 z,bg.ag d1 (sh 4 z)] (qd n d0 d1) (λr y=>⟨.int .i64 r,[],[]⟩):=
 fn 25 Tryz.func99 (ob (λ_ X2=>lp [bx 5,bx 6,K 6 0,C (yn n d1) X2 [4] [] 7] {} (λK1 _ _=>{L:=[(6,.int .i64 K1)],ks:=[2,5]}) (λx z b=>match x with|.inl G1=>{e:=.ret,L:=[(4,.int .i64 G1)]}|.inr G2=>{e:=.exit 0}) (λK1=>br [] (ob (λX3 X4=>ob (λ_ X6=>br [Ie 7 8 bg X4,K 5 0,X 9,K 8 0,C (ref16_one_C n d0 X3) X6 [0,1,2,3,10] [] 11] (rt []) (nd (λO1=>rt [wr 15 O1]))))) (rt [])) (kS (kA λ_=>rt []) (kA λ_=>rt []))))
def qc (n:Nat) (d0:cI) (d1:wl) (K1:Int):Option (Lp Int (Sum Int Unit)):=bif decide (K1<(d1.bk.length:Int)) then(aq d1.bk K1).bind λX1=>(gZ n d1).bind λX3=>(bif X3 then(aq d1.cO (0:Int)).bind λX5=>(iY n X5 X1.aE).bind λX7=>bif !X7 then(some (.br (.inl (170:Int))):Option (Lp Int (Sum Int Unit))).map Lp.br else some (.nx ()) else(pC n d1.bB X1.aE).bind λX9=>bif !X9.2 then(some (.br (.inl (91:Int))):Option (Lp Int (Sum Int Unit))).map Lp.br else some (.nx ()):Option (Lp Unit (Lp Int (Sum Int Unit)))).bind λj=>joinF j λG1=>(qd n d0 X1.fE).bind λX11=>bif !(decide (X11=0)) then some (.br (.inl X11)) else ar (inR .i64 (K1+1))<|some (.nx (K1+1)) else some (.br (.inr ()))
def qJ (n:Nat) (d0:cI) (d1:wl):Option Int:=(av (qc n d0 d1) n (0:Int)).bind λQ3=>(match Q3 with|.inl G2=>some (G2)|.inr G3=>some (0:Int))
theorem ref16_props_C (n:Nat) (d0:cI) (d1:wl) (z:Zs):oK (bq.facts d0 z++gT.facts d1 (sh 4 z)) [] 158 [bq.ag d0 z,gT.ag d1 (sh 4 z)] (qJ n d0 d1) (λr y=>⟨.int .i64 r,[],[]⟩):=
 fn 49 Tryz.func158 (lp [bx 7,bx 8] {} (λK1 _ _=>{L:=[(5,.int .i64 K1)],ks:=[2,3]}) (λx z b=>match x with|.inl G2=>{e:=.ret,L:=[(4,.int .i64 G2)]}|.inr G3=>{e:=.exit 0}) (λK1=>br [K 8 3] (ob (λX1 X2=>ob (λ_ X4=>jb .no [K 8 3,I 4 9 qu X2,K 9 0,al 11,Sn 11,K 8 0,C (iX n d1) X4 [4,5,6] [] 12] (λ_ _ _=>{ks:=[2,3,5,6]}) (br [] (ob (λX5 X6=>ob (λ_ X8=>br [Ie 6 12 bq X6,K 8 6,X 13,K 12 0,O 11,C (mj n X5 X1.aE) X8 [14,15,16,17] [] 18] (esc [] (rt [])) (rt [])))) (ob (λ_ X10=>br [K 8 1,O 11,C (yf n d1.bB X1.aE) X10 [] [] 12,al 12,Sn 12] (esc [] (rt [])) (rt [])))) (kA λ_=>ob (λ_ X12=>br [K 7 0,O 11,C (yp n d0 X1.fE) X12 [0,1,2,3,10] [] 18] (rt []) (nd (λO1=>rt [wr 16 O1]))))))) (rt [])) (kS (kA λ_=>rt []) (kA λ_=>rt [])))
abbrev uU (rec_ref16_Check:cI→Option (Bs×Int)):Prop:=∀ (d0:cI) (z:Zs),OkC Tryz.prog (bq.facts d0 z) [] 48 [bq.ag d0 z] (rec_ref16_Check d0) (λr y=>⟨.tuple #[S r.1,.int .i64 r.2],[],[]⟩)
def jx (n:Nat) (d0:cI) (d1:wl) (K1:Int):Option (Lp Int (Sum Unit Unit)):=bif decide (K1<(d1.cR.length:Int)) then((aq d1.cR K1).bind λX7=>(iV n d0 X7).bind λX9=>some (X9.2):Option Bool).bind λG2=>bif !G2 then some (.br (.inl ())) else(aq d1.cR K1).bind λX11=>bif decide (X11=d1.ci) then some (.br (.inl ())) else ar (inR .i64 (K1+1))<|some (.nx (K1+1)) else some (.br (.inr ()))
def jl (n:Nat) (rec_ref16_Check:cI→Option (Bs×Int)) (d0:cI) (d1:wl):Option (Bs×Int):=(iY n d0 d1.ci).bind λX1=>bif X1 then some (([]:Bs),(41:Int)) else(qK n d1).bind λX3=>bif !X3 then some (([]:Bs),(90:Int)) else(bif !(decide (d1.ef=[])) then(jZ n d0 d1.ef).bind λX5=>some (!X5) else some (false):Option Bool).bind λG1=>bif G1 then some (([]:Bs),(150:Int)) else(av (jx n d0 d1) n (0:Int)).bind λQ3=>(match Q3 with|.inl G3=>some (([]:Bs),(160:Int))|.inr G4=>(qJ n d0 d1).bind λX13=>(bif !(decide (X13=0)) then some (true) else(gZ n d1).bind λX15=>some (!X15):Option Bool).bind λG5=>bif G5 then some (([]:Bs),X13) else(aq d1.cO (0:Int)).bind λX17=>(rec_ref16_Check X17).bind λX19=>some (X19.1,X19.2))
theorem xH (n:Nat) (rec_ref16_Check:cI→Option (Bs×Int)) (hrec_ref16_Check:uU rec_ref16_Check) (d0:cI) (d1:wl) (z:Zs):oK (bq.facts d0 z++gT.facts d1 (sh 4 z)) [] 97 [bq.ag d0 z,gT.ag d1 (sh 4 z)] (jl n rec_ref16_Check d0 d1) (λr y=>⟨.tuple #[S r.1,.int .i64 r.2],[],[]⟩):=
 fn 74 Tryz.func97 (ob (λ_ X2=>br [bx 7,bx 8,K 7 0,K 8 0,C (mj n d0 d1.ci) X2 [0,1,2,3] [] 9] (rt []) (ob (λ_ X4=>br [K 8 0,C (ref16_typed_C n d1) X4 [4,5,6] [] 9] (rt []) (jn (.reg 5) [] (λG1 _ _=>{L:=[(26,.bool G1)],ks:=[2,3]}) (bs [K 8 2] 20 (ob (λ_ X6=>rt [K 7 0,K 8 2,C (oA n d0 d1.ef) X6 [0,1,2,3] [] 9])) (rt [])) (kA λ_=>br [] (rt []) (lp [] {} (λK1 _ _=>{L:=[(6,.int .i64 K1)],ks:=[2,3]}) (λx z b=>match x with|.inl G3=>{e:=.ret,L:=[(4,S []),(5,.int .i64 160)]}|.inr G4=>{e:=.exit 0,ks:=[2,3]}) (λK1=>br [K 8 4] (jn (.reg 10) [] (λG2 _ _=>{L:=[(8,.bool G2)],ks:=[2,3,6]}) (ob (λX7 X8=>ob (λ_ X10=>rt [Ie 5 9 tS X8,K 7 0,K 8 4,X 10,K 9 0,C (tO n d0 X7) X10 [0,1,2,3] [] 11,al 14,Sn 14]))) (kA λ_=>bh (.reg 11) [] (λB6=>rt [ch [] [(46,⟨cB B6⟩)],cd true,cd true,cd true,cd true,cd true]) (λB6=>ob (λ_ X12=>br [Ie 5 15 tS X12,ch [] [(46,⟨cB B6⟩)],K 8 4,X 16,K 15 0,K 8 0] (rt []) (nd (λO1=>rt [wr 33 O1])))))) (rt [])) (kS (kA λ_=>rt []) (kA λ_=>ob (λ_ X14=>jn (.reg 14) [K 7 0,K 8 0,C (ref16_props_C n d0 d1) X14 [0,1,2,3,4,5,6] [] 17] (λG5 _ _=>{L:=[(65,.bool G5)],ks:=[3,9]}) (bs [] 61 (rt []) (ob (λ_ X16=>rt [K 8 0,C (iX n d1) X16 [4,5,6] [] 17]))) (kA λ_=>br [] (rt []) (ob (λX17 X18=>ob (λ_ X20=>rt [K 8 6,I 6 17 bq X18,K 17 0,C (hrec_ref16_Check X17) X20 [18,19,20,21] [] 22]))))))))))))))
def pX (n:Nat) (d0:cI) (K1:Int):Option (Lp Int (Sum (Bs×Int) Unit)):=bif decide (K1<(d0.dL.length:Int)) then(aq d0.dL K1).bind λX1=>(nG n d0 X1).bind λX3=>bif !(decide (X3=0)) then(aq d0.dL K1).bind λX5=>ar ([67,111,110,100,105,116,105,111,110,115,47].length+X5.aE.length≤9223372036854775807)<|some (.br (.inl ([67,111,110,100,105,116,105,111,110,115,47]++X5.aE,X3))) else ar (inR .i64 (K1+1))<|some (.nx (K1+1)) else some (.br (.inr ()))
def pY (n:Nat) (rec_ref16_Check:cI→Option (Bs×Int)) (d0:cI) (K2:Int):Option (Lp Int (Sum (Bs×Int) Unit)):=bif decide (K2<(d0.eR.length:Int)) then(aq d0.eR K2).bind λX7=>(jl n rec_ref16_Check d0 X7).bind λX9=>bif !(decide (X9.2=0)) then(bif !(decide (X9.1=[])) then ar ([47].length+X9.1.length≤9223372036854775807)<|some ([47]++X9.1) else some (X9.1):Option Bs).bind λG3=>(aq d0.eR K2).bind λX11=>ar ([82,101,115,111,117,114,99,101,115,47].length+X11.ci.length≤9223372036854775807)<|ar (([82,101,115,111,117,114,99,101,115,47]++X11.ci).length+G3.length≤9223372036854775807)<|some (.br (.inl (([82,101,115,111,117,114,99,101,115,47]++X11.ci)++G3,X9.2))) else ar (inR .i64 (K2+1))<|some (.nx (K2+1)) else some (.br (.inr ()))
def pZ (n:Nat) (d0:cI) (K3:Int):Option (Lp Int (Sum (Bs×Int) Unit)):=bif decide (K3<(d0.bM.length:Int)) then(aq d0.bM K3).bind λX13=>(bif !(decide (X13.ef=[])) then(jZ n d0 X13.ef).bind λX15=>some (!X15) else some (false):Option Bool).bind λG6=>bif G6 then ar ([79,117,116,112,117,116,115,47].length+X13.aE.length≤9223372036854775807)<|some (.br (.inl ([79,117,116,112,117,116,115,47]++X13.aE,(150:Int)))) else(qd n d0 X13.fE).bind λX17=>bif !(decide (X17=0)) then ar ([79,117,116,112,117,116,115,47].length+X13.aE.length≤9223372036854775807)<|some (.br (.inl ([79,117,116,112,117,116,115,47]++X13.aE,X17))) else ar (inR .i64 (K3+1))<|some (.nx (K3+1)) else some (.br (.inr ()))
def rM (n:Nat) (rec_ref16_Check:cI→Option (Bs×Int)) (d0:cI):Option (Bs×Int):=(av (pX n d0) n (0:Int)).bind λQ2=>(match Q2 with|.inl G1=>some (G1.1,G1.2)|.inr G2=>(av (pY n rec_ref16_Check d0) n (0:Int)).bind λQ3=>(match Q3 with|.inl G4=>some (G4.1,G4.2)|.inr G5=>(av (pZ n d0) n (0:Int)).bind λQ4=>(match Q4 with|.inl G7=>some (G7.1,G7.2)|.inr G8=>some (([]:Bs),(0:Int)))))
set_option maxRecDepth 20000 in
theorem Aw (n:Nat) (rec_ref16_Check:cI→Option (Bs×Int)) (hrec_ref16_Check:uU rec_ref16_Check) (d0:cI) (z:Zs):oK (bq.facts d0 z) [] 48 [bq.ag d0 z] (rM n rec_ref16_Check d0) (λr y=>⟨.tuple #[S r.1,.int .i64 r.2],[],[]⟩):=
 fn 104 Tryz.func48 (lp [bx 4] {} (λK1 _ _=>{L:=[(4,.int .i64 K1)],ks:=[1]}) (λx z b=>match x with|.inl G1=>{e:=.ret,L:=[(2,S G1.1),(3,.int .i64 G1.2)]}|.inr G2=>{e:=.exit 0,ks:=[1]}) (λK1=>br [K 4 1] (ob (λX1 X2=>ob (λ_ X4=>br [Ie 1 5 bJ X2,K 4 0,K 4 1,X 6,K 5 0,C (yo n d0 X1) X4 [0,1,2,3,7,8,9] [] 10] (ob (λX5 X6=>nd (λO1=>rt [K 4 1,I 1 10 bJ X6,K 10 0,cat (l:=[67,111,110,100,105,116,105,111,110,115,47]) (m:=X5.aE) O1]))) (nd (λO2=>rt [wr 18 O2]))))) (rt [])) (kS (kA λ_=>rt []) (kA λ_=>lp [] {} (λK2 _ _=>{L:=[(6,.int .i64 K2)],ks:=[1]}) (λx z b=>match x with|.inl G4=>{e:=.ret,L:=[(2,S G4.1),(3,.int .i64 G4.2)]}|.inr G5=>{e:=.exit 2,ks:=[1]}) (λK2=>br [K 4 2] (ob (λX7 X8=>ob (λX9 X10=>br [Ie 2 14 gT X8,K 4 0,K 4 2,X 15,K 14 0,C (xH n rec_ref16_Check hrec_ref16_Check d0 X7) X10 [0,1,2,3,16,17,18] [] 19] (jn .no [] (λG3 _ _=>{L:=[(7,S G3)],ks:=[1,6,8]}) (br [] (nd (λO3=>rt [cat (l:=[47]) (m:=X9.1) O3])) (rt [])) (kA λG3=>ob (λX11 X12=>nd (λO4=>nd (λO5=>rt [K 4 2,I 2 19 gT X12,K 19 0,cat (l:=[82,101,115,111,117,114,99,101,115,47]) (m:=X11.ci) O4,cat (l:=[82,101,115,111,117,114,99,101,115,47]++X11.ci) (m:=G3) O5]))))) (nd (λO6=>rt [wr 42 O6]))))) (rt [])) (kS (kA λ_=>rt []) (kA λ_=>lp [] {} (λK3 _ _=>{L:=[(9,.int .i64 K3)],ks:=[1]}) (λx z b=>match x with|.inl G7=>{e:=.ret,L:=[(2,S G7.1),(3,.int .i64 G7.2)]}|.inr G8=>{e:=.exit 4}) (λK3=>br [K 4 3] (ob (λX13 X14=>jn (.reg 19) [K 4 3,I 3 23 ir X14,K 23 0,al 25,Sn 25] (λG6 _ _=>{L:=[(90,.bool G6)],ks:=[1,9,10]}) (bs [O 25] 84 (ob (λ_ X16=>rt [K 4 0,O 25,C (oA n d0 X13.ef) X16 [0,1,2,3] [] 26])) (rt [])) (kA λ_=>br [] (nd (λO7=>rt [O 25,cat (l:=[79,117,116,112,117,116,115,47]) (m:=X13.aE) O7])) (ob (λ_ X18=>br [K 4 0,O 25,C (yp n d0 X13.fE) X18 [0,1,2,3,24] [] 26] (nd (λO8=>rt [O 25,cat (l:=[79,117,116,112,117,116,115,47]) (m:=X13.aE) O8])) (nd (λO9=>rt [wr 75 O9]))))))) (rt [])) (kS (kA λ_=>rt []) (kA λ_=>rt [])))))))
def ep (n:Nat):Nat→cI→Option (Bs×Int)|0=>λ_=>none|k+1=>rM n (ep n k)
def vG (n:Nat) (d0:cI):Option (Bs×Int):=ep n n d0
theorem ref16_Check_C (n:Nat) (d0:cI) (z:Zs):oK (bq.facts d0 z) [] 48 [bq.ag d0 z] (vG n d0) (λr y=>⟨.tuple #[S r.1,.int .i64 r.2],[],[]⟩):=by
 have key: ∀ (k:Nat) (d0:cI) (z:Zs),oK (bq.facts d0 z) [] 48 [bq.ag d0 z] (ep n k d0) (λr y=>⟨.tuple #[S r.1,.int .i64 r.2],[],[]⟩):=by
  intro k
  induction k with
  |zero=>intros;exact OkC.none
  |succ k ih=>exact Aw n (ep n k) ih
 exact key n d0 z
variable {n:Nat}
theorem us16 (hn:10000000000001<n): ∀ (k:Nat) (x:bZ),dsz (aN x)<k→dsz (aN x)≤2000000→Tot (gY n k x) λr=>r.length≤dsz (aN x)
 |0,x,h,_=>by omega
 |k+1,x,hk,hz=>by
  have hp:_∧_:=Sz.p x
  haveI: ∀y,Tt (gY n k y) (dsz (aN y)<k∧dsz (aN y)≤2000000) (λr=>r.length≤dsz (aN y)):=λy=>⟨λh=>us16 hn k y h.1 h.2⟩
  unfold gY tQ
  refine Tot.b (Tot.m (R:=λ_=>True) tgo λb _=>Tot.b (Tot.m (R:=λr=>r.length≤1) (Tot.c (λ_=>Tot.n (by simp) (Tot.s (by simp))) λ_=>Tot.s (by simp)) λy hy=>?_))
  refine Tot.b (Tot.m (R:=λr=>r.length≤dsz (aN x)) (Tot.li (λs=>s.2) (λs=>s.2≤x.fL.length∧s.1.length≤1+dszs ((x.fL.take s.2.toNat).map aN)) x.fL.length (by omega) (by simp[dszs];omega) λs h1 h2=>?_) λ_ h=>Tot.s h)
  unfold xc
  refine Tot.cd (λh3=>?_) (λh3=>Tot.sb ?_)
  ·refine Tot.b (Tot.gt ⟨h1,h3⟩ λy hy ht=>?_)
   have:=dZ hy
   have:=ht aN
   have:=lA (xs:=x.fL) (s.2.toNat+1)
   have:=lA (xs:=x.fL) s.2.toNat
   simp only[Sz.f,zz,zl] at*
   have e: (s.2+1).toNat=s.2.toNat+1:=by omega
   exact Tot.cl (by omega) λw hw=>Tot.n (by omega) (Tot.i (by omega) (Tot.sn (by dsimp only;rw[e,List.length_append];omega)))
  have:s.2.toNat=x.fL.length:=by omega
  rw[this,List.take_length] at h2
  omega
instance {x:bZ}:Tt (tP n x) (10000000000001<n∧dsz (aN x)≤2000000) λr=>r.length≤2000000:=⟨λh=>(us16 h.1 n x (by omega) h.2).m λ_ h'=>by omega⟩
instance {t:cI} {k:Bs}:Tt (iY n t k) (10000000000001<n∧dsz (ba t)≤2000000) λ_=>True:=⟨λ ⟨hn,hz⟩=>by
 have hp:_∧_:=Sz.p t
 haveI:Tt (av (qa n t k) n (0:Int)) True λ_=>True:=⟨λ_=>Tot.li (λs=>s) (λ_=>True) t.bQ.length (by omega) (by simp) λs h1 _=>by unfold qa;exact tgo⟩
 unfold iY;exact tgo⟩
instance {t:cI} {x:bZ}:Tt (mJ n t x) (10000000000001<n∧dsz (ba t)≤2000000∧dsz (aN x)≤2000000) λ_=>True:=⟨λ ⟨hn,hz,hx⟩=>by
 haveI: ∀xs:List bZ,Tt (av (qb n t xs) n (0:Int)) (xs.length≤2000000) λ_=>True:=λxs=>⟨λh=>Tot.li (λs=>s) (λ_=>True) xs.length (by omega) (by simp) λs h1 _=>by unfold qb;exact tgo⟩
 unfold mJ;exact tgo⟩
instance {t:cI} {k:Bs}:Tt (jZ n t k) (10000000000001<n∧dsz (ba t)≤2000000) λ_=>True:=⟨λ ⟨hn,hz⟩=>by
 have hp:_∧_:=Sz.p t
 haveI:Tt (av (rN n t k) n (0:Int)) True λ_=>True:=⟨λ_=>Tot.li (λs=>s) (λ_=>True) t.dL.length (by omega) (by simp) λs h1 _=>by unfold rN;exact tgo⟩
 unfold jZ;exact tgo⟩
theorem cd16 (hn:10000000000001<n) {t:cI} (ht:dsz (ba t)≤2000000): ∀ (k:Nat) (x:cy),dsz (bb x)<k→dsz (bb x)≤2000000→Tot (cZ n k t x) λ_=>True
 |0,x,h,_=>by omega
 |k+1,x,hk,hz=>by
  have hp:_∧_:=Sz.p x
  haveI: ∀y,Tt (cZ n k t y) (dsz (bb y)<k∧dsz (bb y)≤2000000) (λ_=>True):=λy=>⟨λh=>cd16 hn ht k y h.1 h.2⟩
  haveI:Tt (av (ka n (cZ n k) t x) n (0:Int)) True (λ_=>True):=⟨λh=>Tot.li (λs=>s) (λ_=>True) x.fL.length (by omega) (by simp) λs h1 h2=>by
   unfold ka;exact tgo⟩
  unfold cZ kI
  exact tgo
instance {r:wl}:Tt (gZ n r) True λb=>b=true↔r.bB=[83,116,97,99,107]:=⟨λ_=>Tot.s (by simp)⟩
instance {r:wl}:Tt (qK n r) True λb=>b=true→r.bB=[83,116,97,99,107]→r.cO.length=1:=⟨λ_=>by
 unfold qK
 exact Tot.cl trivial λb hb=>Tot.c (λh=>Tot.s (by simp;omega)) λh=>Tot.cl trivial λ_ _=>Tot.cd (λ_=>Tot.s (λ_ e=>by rw[hb.2 e] at h;cases h)) λ_=>Tot.s (by simp)⟩
instance {t:cI} {k:Bs}:Tt (iV n t k) (10000000000001<n∧dsz (ba t)≤2000000) λ_=>True:=⟨λ ⟨hn,hz⟩=>by
 have hp:_∧_:=Sz.p t
 haveI: ∀z,Tt (av (jF n t k) n ((0:Int),z)) True λ_=>True:=λz=>⟨λ_=>Tot.li (λs=>s.1) (λ_=>True) t.eR.length (by omega) (by simp) λs h1 _=>by unfold jF;exact tgo⟩
 unfold iV;exact tgo⟩
instance {t:cI} {k:Bs}:Tt (oz n t k) (10000000000001<n∧dsz (ba t)≤2000000) λ_=>True:=⟨λ ⟨hn,hz⟩=>by
 have hp:_∧_:=Sz.p t
 haveI: ∀z,Tt (av (nE n t k) n ((0:Int),z)) True λ_=>True:=λz=>⟨λ_=>Tot.li (λs=>s.1) (λ_=>True) t.bM.length (by omega) (by simp) λs h1 _=>by unfold nE;exact tgo⟩
 unfold oz;exact tgo⟩
theorem find16 {t:cI} {k:Bs} (hn:10000000000001<n) (hz:dsz (ba t)≤2000000):Tot (iV n t k) λr=>dsz (cg r.1)≤2000000:=by
 have hp:_∧_:=Sz.p t
 have h0:dsz (cg z_TC0)≤20:=by have hp:_∧_:=Sz.p z_TC0;simp[dszs] at hp;omega
 haveI: ∀z,Tt (av (jF n t k) n ((0:Int),z)) True λb=>match b with|.inl r=>dsz (cg r)≤2000000|.inr _=>True:=λz=>⟨λ_=>Tot.li (λs=>s.1) (λ_=>True) t.eR.length (by omega) (by simp) λs h1 _=>by unfold jF;exact tgo⟩
 unfold iV
 refine Tot.cl trivial λb hb=>?_
 cases b with
 |inl r=>exact Tot.s hb
 |inr _=>exact Tot.s (by dsimp only;omega)
instance {t:cI} {x:bZ}:Tt (wx n t x) (10000000000001<n∧dsz (ba t)≤2000000) λ_=>True:=⟨λ ⟨hn,hz⟩=>by
 unfold wx
 refine Tot.cd (λ_=>by exact tgo) λ_=>Tot.cd (λ_=>by exact tgo) λ_=>Tot.cd (λ_=>?_) λ_=>by exact tgo
 refine Tot.b ((find16 hn hz).m λr hr=>Tot.cn (Tot.c (λ_=>Tot.cl trivial λb _=>Tot.cn (Tot.c (λ_=>?_) λ_=>by exact tgo)) λ_=>by exact tgo))
 refine Tot.b (Tot.m (R:=λb=>b=false→r.1.cO.length=1∧8≤x.dQ.length) ?_ λb hb=>Tot.c (λ_=>by exact tgo) λh=>?_)
 · exact Tot.cn (Tot.cd (λh1=>Tot.cd (λ_=>Tot.s (by simp)) λh2=>Tot.n (by omega) (Tot.s (λ_=>by omega))) λ_=>Tot.s (by simp))
 · have:=hb h
   have hp:_∧_:=Sz.p r.1
   refine Tot.b (Tot.m (R:=λ_=>True) (Tot.b (Tot.gx (by omega) λu _ _ hs hq=>Tot.n (by omega) ?_)) λ_ _=>by exact tgo)
   simp only[Sz.f,zz,zl] at hs
   exact Tot.cl ⟨hn,by omega⟩ λ_ _=>Tot.s trivial⟩
instance {t:cI} {x:bZ}:Tt (qd n t x) (10000000000001<n∧dsz (ba t)≤2000000∧dsz (aN x)≤2000000) λ_=>True:=⟨λ ⟨hn,hz,hx⟩=>by
 haveI: ∀xs:List bZ,Tt (av (rP n t xs) n (0:Int)) (xs.length≤2000000) λ_=>True:=λxs=>⟨λh=>Tot.li (λs=>s) (λ_=>True) xs.length (by omega) (by simp) λs h1 _=>by unfold rP;exact tgo⟩
 unfold qd;exact tgo⟩
instance {t:cI} {r:wl}:Tt (qJ n t r) (10000000000001<n∧dsz (ba t)≤2000000∧dsz (cg r)≤2000000∧(r.bB=[83,116,97,99,107]→r.cO.length=1)) λ_=>True:=⟨λ ⟨hn,hz,hr,hi⟩=>by
 have hp:_∧_:=Sz.p r
 haveI:Tt (av (qc n t r) n (0:Int)) True λ_=>True:=⟨λh=>Tot.li (λs=>s) (λ_=>True) r.bk.length (by omega) (by simp) λs h1 _=>by
  unfold qc
  refine Tot.cd (λh2=>Tot.b (Tot.gx ⟨h1,h2⟩ λp _ _ hs hq=>?_)) λ_=>Tot.sb trivial
  simp only[Sz.f,zz,zl] at hs
  have hq:_∧_:=hq
  refine Tot.cl trivial λb hb=>Tot.b (Tot.m (R:=λj=>match j with|.nx _=>True|.br l=>LpP (λs'=>s<r.bk.length∧s<s'∧True) (λ_=>True) l) (Tot.c (λh=>?_) λh=>Tot.cl (by omega) λ_ _=>Tot.cn (Tot.c (λ_=>Tot.s trivial) λ_=>Tot.mb (Tot.sb trivial))) λj hj=>?_)
  · have:=hi (hb.1 h)
    refine Tot.b (Tot.gx (by omega) λu _ _ hs' _=>?_)
    simp only[Sz.f,zz,zl] at hs'
    exact Tot.cl ⟨hn,by omega⟩ λ_ _=>Tot.cn (Tot.c (λ_=>Tot.s trivial) λ_=>Tot.mb (Tot.sb trivial))
  · cases j with
    |br l=>exact⟨l,rfl,hj⟩
    |nx _=>exact Tot.jn (Tot.cl ⟨hn,hz,by omega⟩ λ_ _=>by exact tgo)⟩
 unfold qJ;exact tgo⟩
theorem ck16 (hn:10000000000001<n): ∀ (k:Nat) (t:cI),dsz (ba t)<k→dsz (ba t)≤2000000→Tot (ep n k t) λr=>r.1.length≤20*dsz (ba t)
 |0,t,h,_=>by omega
 |k+1,t,hk,hz=>by
  have hp:_∧_:=Sz.p t
  have rs: ∀r:wl,dsz (cg r)+5≤dsz (ba t)→Tot (jl n (ep n k) t r) λx=>x.1.length+20*r.ci.length≤20*dsz (cg r):=λr hr=>by
   have hq:_∧_:=Sz.p r
   haveI:Tt (av (jx n t r) n (0:Int)) True λ_=>True:=⟨λh=>Tot.li (λs=>s) (λ_=>True) r.cR.length (by omega) (by simp) λs h1 _=>by unfold jx;exact tgo⟩
   have h0: ([]:Bs).length+20*r.ci.length≤20*dsz (cg r):=by simp;omega
   unfold jl
   refine Tot.cl ⟨hn,hz⟩ λ_ _=>Tot.c (λ_=>Tot.s h0) λ_=>Tot.cl trivial λb hb=>Tot.cn (Tot.c (λh=>?_) λ_=>Tot.s h0)
   refine Tot.b (Tot.m (R:=λ_=>True) tgo λ_ _=>Tot.c (λ_=>Tot.s h0) λ_=>Tot.cl trivial λb _=>?_)
   cases b with
   |inl _=>exact Tot.s h0
   |inr _=>
    refine Tot.cl ⟨hn,hz,by omega,hb h⟩ λe _=>Tot.b (Tot.m (R:=λb=>b=false→r.bB=[83,116,97,99,107]) (Tot.cn (Tot.cd (λ_=>Tot.cl trivial λb hb=>Tot.s (by simp only[Bool.not_eq_false'];exact hb.1)) λ_=>Tot.s (by simp))) λb hb'=>Tot.c (λ_=>Tot.s h0) λh'=>?_)
    have:=hb h (hb' h')
    refine Tot.b (Tot.gx (by omega) λu _ _ hs hq'=>?_)
    simp only[Sz.f,zz,zl] at hs
    exact Tot.b ((ck16 hn k u (by omega) (by omega)).m λx hx=>Tot.s (by dsimp only;omega))
  haveI: ∀x,Tt (nG n t x) (dsz (bb x)≤2000000) λ_=>True:=λx=>⟨λh=>cd16 hn hz n x (by omega) h⟩
  have l1:Tot (av (pX n t) n (0:Int)) λb=>match b with|.inl r=>r.1.length≤20*dsz (ba t)|.inr _=>True:=Tot.li (λs=>s) (λ_=>True) t.dL.length (by omega) (by simp) λs h1 _=>by
   unfold pX
   refine Tot.cd (λh2=>Tot.b (Tot.gx ⟨h1,h2⟩ λc hc _ hs hq=>?_)) λ_=>Tot.sb trivial
   have hq:_∧_:=hq
   simp only[Sz.f,zz,zl] at hs
   exact Tot.cl (by omega) λ_ _=>Tot.cn (Tot.cd (λ_=>Tot.i (by omega) (Tot.sn ⟨h2,by omega,trivial⟩)) λ_=>Tot.b (Tot.ge hc (Tot.n (by simp;omega) (Tot.sb (by simp;omega)))))
  have l2:Tot (av (pY n (ep n k) t) n (0:Int)) λb=>match b with|.inl r=>r.1.length≤20*dsz (ba t)|.inr _=>True:=Tot.li (λs=>s) (λ_=>True) t.eR.length (by omega) (by simp) λs h1 _=>by
   unfold pY
   refine Tot.cd (λh2=>Tot.b (Tot.gx ⟨h1,h2⟩ λc hc _ hs hq=>?_)) λ_=>Tot.sb trivial
   have hq:_∧_:=hq
   simp only[Sz.f,zz,zl] at hs
   refine Tot.b ((rs c (by omega)).m λx hx=>Tot.cn (Tot.cd (λ_=>Tot.i (by omega) (Tot.sn ⟨h2,by omega,trivial⟩)) λ_=>Tot.b (Tot.m (R:=λy=>y.length≤x.1.length+1) (Tot.cn (Tot.cd (λ_=>Tot.s (by omega)) λ_=>Tot.n (by simp;omega) (Tot.s (by simp)))) λy hy=>Tot.b (Tot.ge hc (Tot.n (by simp;omega) (Tot.n (by simp;omega) (Tot.sb (by simp;omega))))))))
  have l3:Tot (av (pZ n t) n (0:Int)) λb=>match b with|.inl r=>r.1.length≤20*dsz (ba t)|.inr _=>True:=Tot.li (λs=>s) (λ_=>True) t.bM.length (by omega) (by simp) λs h1 _=>by
   unfold pZ
   refine Tot.cd (λh2=>Tot.b (Tot.gx ⟨h1,h2⟩ λc hc _ hs hq=>?_)) λ_=>Tot.sb trivial
   have hq:_∧_:=hq
   simp only[Sz.f,zz,zl] at hs
   exact Tot.b (Tot.m (R:=λ_=>True) tgo λ_ _=>Tot.c (λ_=>Tot.n (by simp;omega) (Tot.sb (by simp;omega))) λ_=>Tot.cl ⟨hn,hz,by omega⟩ λ_ _=>Tot.cn (Tot.cd (λ_=>Tot.i (by omega) (Tot.sn ⟨h2,by omega,trivial⟩)) λ_=>Tot.n (by simp;omega) (Tot.sb (by simp;omega))))
  unfold ep rM
  refine Tot.b (l1.m λb hb=>?_)
  cases b with
  |inl r=>exact Tot.s hb
  |inr _=>
   refine Tot.b (l2.m λb hb=>?_)
   cases b with
   |inl r=>exact Tot.s hb
   |inr _=>
    refine Tot.b (l3.m λb hb=>?_)
    cases b with
    |inl r=>exact Tot.s hb
    |inr _=>exact Tot.s (by simp)
instance {t:cI}:Tt (vG n t) (10000000000001<n∧dsz (ba t)≤2000000) λ_=>True:=⟨λh=>(ck16 h.1 n t (by omega) h.2).m λ_ _=>trivial⟩
open Go.Ck
abbrev AX (rec_ref17_parts:bZ→Option Int):Prop:=∀ (d0:bZ) (z:Zs),OkC Tryz.prog (bg.facts d0 z) [] 93 [bg.ag d0 z] (rec_ref17_parts d0) (λr y=>⟨.int .i64 r,[],[]⟩)
def vM (n:Nat) (rec_ref17_parts:bZ→Option Int) (d0:bZ) (K1:Int×Int):Option (Lp (Int×Int) Int):=bif decide (K1.2<(d0.fL.length:Int)) then(aq d0.fL K1.2).bind λX1=>(rec_ref17_parts X1).bind λX3=>ar (inR .i64 (K1.1+X3))<|ar (inR .i64 (K1.2+1))<|some (.nx (K1.1+X3,K1.2+1)) else some (.br K1.1)
def rS (n:Nat) (rec_ref17_parts:bZ→Option Int) (d0:bZ):Option Int:=ar (inR .i64 ((1:Int)+ (d0.be.length:Int)))<|ar (inR .i64 (((1:Int)+ (d0.be.length:Int))+ (d0.aE.length:Int)))<|(av (vM n rec_ref17_parts d0) n (((1:Int)+ (d0.be.length:Int))+ (d0.aE.length:Int),(0:Int))).bind λG1=>some (G1)
theorem Ay (n:Nat) (rec_ref17_parts:bZ→Option Int) (hrec_ref17_parts:AX rec_ref17_parts) (d0:bZ) (z:Zs):oK (bg.facts d0 z) [] 93 [bg.ag d0 z] (rS n rec_ref17_parts d0) (λr y=>⟨.int .i64 r,[],[]⟩):=
 fn 29 Tryz.func93 (nd (λO1=>nd (λO2=>lp [bx 1,K 1 1,wr 8 O1,K 1 3,wr 12 O2] {} (λK1 _ _=>{L:=[(3,.int .i64 K1.1),(4,.int .i64 K1.2)],ks:=[1]}) (λG1 _ _=>{e:=.exit 0,L:=[(3,.int .i64 G1)]}) (λK1=>br [K 1 5] (ob (λX1 X2=>ob (λ_ X4=>nd (λO3=>nd (λO4=>rt [K 1 5,I 0 2 bg X2,K 2 0,C (hrec_ref17_parts X1) X4 [3] [] 4,wr 27 O3,wr 19 O4]))))) (rt [])) (kA λ_=>rt []))))
def gD (n:Nat):Nat→bZ→Option Int|0=>λ_=>none|k+1=>rS n (gD n k)
def qP (n:Nat) (d0:bZ):Option Int:=gD n n d0
theorem xg (n:Nat) (d0:bZ) (z:Zs):oK (bg.facts d0 z) [] 93 [bg.ag d0 z] (qP n d0) (λr y=>⟨.int .i64 r,[],[]⟩):=by
 have key: ∀ (k:Nat) (d0:bZ) (z:Zs),oK (bg.facts d0 z) [] 93 [bg.ag d0 z] (gD n k d0) (λr y=>⟨.int .i64 r,[],[]⟩):=by
  intro k
  induction k with
  |zero=>intros;exact OkC.none
  |succ k ih=>exact Ay n (gD n k) ih
 exact key n d0 z
abbrev Ae (rec_ref17_weight:cI→Int→Option Int):Prop:=∀ (d0:cI) (d1:Int) (z:Zs),OkC Tryz.prog (bq.facts d0 z) [] 42 [bq.ag d0 z,.int .i64 d1] (rec_ref17_weight d0 d1) (λr y=>⟨.int .i64 r,[],[]⟩)
def nL (n:Nat) (X5:wl) (K2:Int×Int):Option (Lp (Int×Int) (Sum Unit Int)):=bif decide (K2.2<(X5.bk.length:Int)) then(aq X5.bk K2.2).bind λX7=>(mF n X7.fE).bind λX9=>bif X9 then some (.br (.inl ())) else(aq X5.bk K2.2).bind λX11=>(aq X5.bk K2.2).bind λX13=>(qP n X13.fE).bind λX15=>ar (inR .i64 ((min (X11.aE.length:Int) (10000:Int))+X15))<|ar (inR .i64 (K2.1+ ((min (X11.aE.length:Int) (10000:Int))+X15)))<|ar (inR .i64 (K2.2+1))<|some (.nx (K2.1+ ((min (X11.aE.length:Int) (10000:Int))+X15),K2.2+1)) else some (.br (.inr K2.1))
def nM (n:Nat) (X5:wl) (K3:Int×Int):Option (Lp (Int×Int) Int):=bif decide (K3.2<(X5.cR.length:Int)) then(aq X5.cR K3.2).bind λX17=>ar (inR .i64 (K3.1+ (min (X17.length:Int) (10000:Int))))<|ar (inR .i64 (K3.2+1))<|some (.nx (K3.1+ (min (X17.length:Int) (10000:Int)),K3.2+1)) else some (.br K3.1)
def nN (n:Nat) (rec_ref17_weight:cI→Int→Option Int) (d1:Int) (X5:wl) (K4:Int×Int):Option (Lp (Int×Int) Int):=(bif decide (K4.2<(X5.cO.length:Int)) then some (decide (K4.1≤10000)) else some (false):Option Bool).bind λG6=>bif G6 then(aq X5.cO K4.2).bind λX19=>ar (inR .i64 (d1-1))<|(rec_ref17_weight X19 (d1-1)).bind λX21=>ar (inR .i64 (K4.1+X21))<|ar (inR .i64 (K4.2+1))<|some (.nx (K4.1+X21,K4.2+1)) else some (.br K4.1)
def nK (n:Nat) (rec_ref17_weight:cI→Int→Option Int) (d0:cI) (d1:Int) (K1:Int×Int):Option (Lp (Int×Int) (Sum Int Int)):=bif decide (K1.2<(d0.eR.length:Int)) then(aq d0.eR K1.2).bind λX5=>(bif decide ((60:Int)<(X5.bk.length:Int)) then some (true) else bif decide ((60:Int)<(X5.cR.length:Int)) then some (true) else some (decide ((3:Int)<(X5.cO.length:Int))):Option Bool).bind λG2=>bif G2 then some (.br (.inl (10000:Int))) else ar (inR .i64 ((X5.ci.length:Int)+ (X5.bB.length:Int)))<|ar (inR .i64 (((X5.ci.length:Int)+ (X5.bB.length:Int))+ (X5.ef.length:Int)))<|ar (inR .i64 ((1:Int)+ (min (((X5.ci.length:Int)+ (X5.bB.length:Int))+ (X5.ef.length:Int)) (10000:Int))))<|ar (inR .i64 (K1.1+ ((1:Int)+ (min (((X5.ci.length:Int)+ (X5.bB.length:Int))+ (X5.ef.length:Int)) (10000:Int)))))<|(av (nL n X5) n (K1.1+ ((1:Int)+ (min (((X5.ci.length:Int)+ (X5.bB.length:Int))+ (X5.ef.length:Int)) (10000:Int))),(0:Int))).bind λQ4=>(match Q4 with|.inl G3=>some (.br (.inl (10000:Int)))|.inr G4=>(av (nM n X5) n (G4,(0:Int))).bind λG5=>(av (nN n rec_ref17_weight d1 X5) n (G5,(0:Int))).bind λG7=>bif decide ((10000:Int)<G7) then some (.br (.inl G7)) else ar (inR .i64 (K1.2+1))<|some (.nx (G7,K1.2+1))) else some (.br (.inr K1.1))
def nO (n:Nat) (d0:cI) (K5:Int×Int):Option (Lp (Int×Int) (Sum Unit Int)):=bif decide (K5.2<(d0.bM.length:Int)) then(aq d0.bM K5.2).bind λX26=>(mF n X26.fE).bind λX28=>bif X28 then some (.br (.inl ())) else(aq d0.bM K5.2).bind λX30=>(aq d0.bM K5.2).bind λX32=>ar (inR .i64 ((X30.aE.length:Int)+ (X32.ef.length:Int)))<|(aq d0.bM K5.2).bind λX34=>(qP n X34.fE).bind λX36=>ar (inR .i64 ((min ((X30.aE.length:Int)+ (X32.ef.length:Int)) (10000:Int))+X36))<|ar (inR .i64 (K5.1+ ((min ((X30.aE.length:Int)+ (X32.ef.length:Int)) (10000:Int))+X36)))<|ar (inR .i64 (K5.2+1))<|some (.nx (K5.1+ ((min ((X30.aE.length:Int)+ (X32.ef.length:Int)) (10000:Int))+X36),K5.2+1)) else some (.br (.inr K5.1))
def qf (n:Nat) (rec_ref17_weight:cI→Int→Option Int) (d0:cI) (d1:Int):Option Int:=(bif decide (d1=0) then some (true) else bif decide ((60:Int)<(d0.bQ.length:Int)) then some (true) else bif decide ((40:Int)<(d0.dL.length:Int)) then some (true) else bif decide ((60:Int)<(d0.eR.length:Int)) then some (true) else bif decide ((60:Int)<(d0.bM.length:Int)) then some (true) else(iE n d0.bQ).bind λX1=>bif X1 then some (true) else(qH n d0.dL).bind λX3=>some (X3):Option Bool).bind λG1=>bif G1 then some (10000:Int) else ar (inR .i64 ((1:Int)+ (d0.bQ.length:Int)))<|(av (nK n rec_ref17_weight d0 d1) n ((1:Int)+ (d0.bQ.length:Int),(0:Int))).bind λQ2=>(match Q2 with|.inl G8=>some (G8)|.inr G9=>(av (nO n d0) n (G9,(0:Int))).bind λQ7=>(match Q7 with|.inl G10=>some (10000:Int)|.inr G11=>some (G11)))
set_option maxRecDepth 20000 in
theorem zk (n:Nat) (rec_ref17_weight:cI→Int→Option Int) (hrec_ref17_weight:Ae rec_ref17_weight) (d0:cI) (d1:Int) (z:Zs):oK (bq.facts d0 z) [] 42 [bq.ag d0 z,.int .i64 d1] (qf n rec_ref17_weight d0 d1) (λr y=>⟨.int .i64 r,[],[]⟩):=
 fn 208 Tryz.func42 (jn (.reg 1) [bx 4] (λG1 _ _=>{L:=[(47,.bool G1)],ks:=[1,2]}) (bs [] 14 (rt []) (bs [K 4 0] 20 (rt []) (bs [K 4 1] 26 (rt []) (bs [K 4 2] 32 (rt []) (bs [K 4 3] 38 (rt []) (ob (λ_ X2=>bs [K 4 0,C (wI n d0.bQ) X2 [0] [] 5] 43 (rt []) (ob (λ_ X4=>rt [K 4 1,C (ref15_Great_C n d0.dL) X4 [1] [] 5]))))))))) (kA λ_=>br [] (rt []) (nd (λO1=>lp [K 4 0,wr 51 O1] {} (λK1 _ _=>{L:=[(5,.int .i64 K1.1),(6,.int .i64 K1.2)],ks:=[1,2]}) (λx z b=>match x with|.inl G8=>{e:=.ret,L:=[(4,.int .i64 G8)]}|.inr G9=>{e:=.exit 0,L:=[(5,.int .i64 G9)],ks:=[2]}) (λK1=>br [K 4 2] (ob (λ_ X6=>jn (.reg 8) [K 4 2,I 2 5 gT X6,K 5 0,al 9,Sn 9] (λG2 _ _=>{L:=[(79,.bool G2)],ks:=[1,2,5,6,7]}) (bs [O 9] 68 (rt []) (bs [O 9] 74 (rt []) (rt [O 9]))) (kA λ_=>br [] (rt []) (nd (λO2=>nd (λO3=>nd (λO4=>nd (λO5=>lp [O 9,O 9,wr 87 O2,O 9,wr 91 O3,mn,wr 93 O4,wr 94 O5] {} (λK2 _ _=>{L:=[(5,.int .i64 K2.1),(8,.int .i64 K2.2)],ks:=[1,2,6,7]}) (λx z b=>match x with|.inl G3=>{e:=.ret,L:=[(4,.int .i64 10000)]}|.inr G4=>{e:=.exit 2,L:=[(5,.int .i64 G4)],ks:=[1,2,6,7]}) (λK2=>br [O 9] (ob (λX7 X8=>ob (λ_ X10=>br [O 9,I 6 10 qu X8,K 10 1,C (wW n X7.fE) X10 [11] [] 12] (rt []) (ob (λ_ X12=>ob (λX13 X14=>ob (λ_ X16=>nd (λO6=>nd (λO7=>nd (λO8=>rt [Ie 6 12 qu X12,Ie 6 15 qu X14,ch [] [(125,⟨congrArg (Value.int .i64) (cD O6)⟩),(126,⟨congrArg (Value.int .i64) (cD O7)⟩)],O 9,X 13,K 12 0,mn,O 9,X 16,K 15 1,C (xg n X13.fE) X16 [17] [] 18,wr 101 O8])))))))))) (rt [])) (kS (kA λ_=>rt []) (kA λ_=>lp [] {} (λK3 _ _=>{L:=[(5,.int .i64 K3.1),(9,.int .i64 K3.2)],ks:=[1,2,6,7]}) (λG5 _ _=>{e:=.exit 4,L:=[(5,.int .i64 G5)],ks:=[1,2,6,7]}) (λK3=>br [O 9] (ob (λ_ X18=>nd (λO9=>nd (λO10=>rt [O 9,I 7 18 tS X18,K 18 0,mn,wr 142 O9,wr 133 O10])))) (rt [])) (kA λ_=>lp [] {} (λK4 _ _=>{L:=[(5,.int .i64 K4.1),(10,.int .i64 K4.2)],ks:=[1,2,6,7]}) (λG7 _ _=>{e:=.exit 6,L:=[(5,.int .i64 G7)],ks:=[1,2,6]}) (λK4=>jn (.reg 22) [] (λG6 _ _=>{L:=[(151,.bool G6)],ks:=[1,2,5,6,7,10]}) (bs [O 9] 148 (rt []) (rt [])) (kA λ_=>br [] (ob (λX19 X20=>nd (λO11=>ob (λ_ X22=>nd (λO12=>nd (λO13=>rt [O 9,I 8 19 bq X20,K 19 0,wr 161 O11,C (hrec_ref17_weight X19 (d1-1)) X22 [20,21,22,23] [] 24,wr 163 O12,wr 153 O13])))))) (rt []))) (kA λ_=>br [] (rt []) (nd (λO14=>rt [wr 58 O14])))))))))))))) (rt [])) (kS (kA λ_=>rt []) (kA λ_=>lp [] {} (λK5 _ _=>{L:=[(5,.int .i64 K5.1),(11,.int .i64 K5.2)],ks:=[2]}) (λx z b=>match x with|.inl G10=>{e:=.ret,L:=[(4,.int .i64 10000)]}|.inr G11=>{e:=.exit 8,L:=[(5,.int .i64 G11)]}) (λK5=>br [K 4 3] (ob (λX26 X27=>ob (λ_ X29=>br [K 4 3,I 3 24 ir X27,K 24 2,C (wW n X26.fE) X29 [25] [] 26] (rt []) (ob (λ_ X31=>ob (λ_ X33=>nd (λO15=>ob (λX34 X35=>ob (λ_ X37=>nd (λO16=>nd (λO17=>nd (λO18=>rt [Ie 3 26 ir X31,Ie 3 29 ir X33,Ie 3 32 ir X35,ch [] [(196,⟨congrArg (Value.int .i64) (cD O15)⟩),(205,⟨congrArg (Value.int .i64) (cD O16)⟩),(206,⟨congrArg (Value.int .i64) (cD O17)⟩)],K 4 3,X 27,K 26 0,K 4 3,X 30,K 29 1,mn,K 4 3,X 33,K 32 2,C (xg n X34.fE) X37 [34] [] 35,wr 173 O18])))))))))))) (rt [])) (kS (kA λ_=>rt []) (kA λ_=>rt []))))))))
def dx (n:Nat):Nat→cI→Int→Option Int|0=>λ_ _=>none|k+1=>qf n (dx n k)
def tZ (n:Nat) (d0:cI) (d1:Int):Option Int:=dx n n d0 d1
theorem Cd (n:Nat) (d0:cI) (d1:Int) (z:Zs):oK (bq.facts d0 z) [] 42 [bq.ag d0 z,.int .i64 d1] (tZ n d0 d1) (λr y=>⟨.int .i64 r,[],[]⟩):=by
 have key: ∀ (k:Nat) (d0:cI) (d1:Int) (z:Zs),oK (bq.facts d0 z) [] 42 [bq.ag d0 z,.int .i64 d1] (dx n k d0 d1) (λr y=>⟨.int .i64 r,[],[]⟩):=by
  intro k
  induction k with
  |zero=>intros;exact OkC.none
  |succ k ih=>exact zk n (dx n k) ih
 exact key n d0 d1 z
def qL (n:Nat) (d0:cI) (d1:Cp):Option Bool:=(tZ n d0 (8:Int)).bind λX1=>bif decide ((3000:Int)<X1) then some (true) else(mE n d1).bind λX3=>some (X3)
theorem ref17_Great_C (n:Nat) (d0:cI) (d1:Cp) (z:Zs):oK (bq.facts d0 z++[sX 8 aj (z 4) d1]) [] 19 [bq.ag d0 z,wX (z 4) d1] (qL n d0 d1) (λr y=>⟨.bool r,[],[]⟩):=
 fn 12 Tryz.func19 (ob (λ_ X2=>bs [bx 5,K 5 0,C (Cd n d0 (8:Int)) X2 [0,1,2,3] [] 6] 8 (rt []) (ob (λ_ X4=>rt [C (mg n d1) X4 [4] [] 6]))))
open Go.Ck
abbrev Hy_ref17_deep (rec_ref17_deep:cI→Int→Option Bool):Prop:=∀ (d0:cI) (d1:Int) (z:Zs),OkC Tryz.prog (bq.facts d0 z) [] 100 [bq.ag d0 z,.int .i64 d1] (rec_ref17_deep d0 d1) (λr y=>⟨.bool r,[],[]⟩)
def rR (n:Nat) (rec_ref17_deep:cI→Int→Option Bool) (d0:cI) (d1:Int) (K1:Int):Option (Lp Int (Sum Unit Unit)):=bif decide (K1<(d0.eR.length:Int)) then(aq d0.eR K1).bind λX1=>bif !(decide (X1.bB=[83,116,97,99,107])) then bif decide ((0:Int)<(X1.cO.length:Int)) then some (.br (.inl ())) else ar (inR .i64 (K1+1))<|some (.nx (K1+1)) else bif !(decide ((X1.cO.length:Int)=1)) then some (.br (.inl ())) else bif decide (d1=0) then some (.br (.inl ())) else(aq X1.cO (0:Int)).bind λX3=>ar (inR .i64 (d1-1))<|(rec_ref17_deep X3 (d1-1)).bind λX5=>bif !X5 then some (.br (.inl ())) else ar (inR .i64 (K1+1))<|some (.nx (K1+1)) else some (.br (.inr ()))
def tR (n:Nat) (rec_ref17_deep:cI→Int→Option Bool) (d0:cI) (d1:Int):Option Bool:=(av (rR n rec_ref17_deep d0 d1) n (0:Int)).bind λQ2=>(match Q2 with|.inl G1=>some (false)|.inr G2=>some (true))
theorem Ca (n:Nat) (rec_ref17_deep:cI→Int→Option Bool) (hrec_ref17_deep:Hy_ref17_deep rec_ref17_deep) (d0:cI) (d1:Int) (z:Zs):oK (bq.facts d0 z) [] 100 [bq.ag d0 z,.int .i64 d1] (tR n rec_ref17_deep d0 d1) (λr y=>⟨.bool r,[],[]⟩):=
 fn 44 Tryz.func100 (lp [bx 4] {} (λK1 _ _=>{L:=[(5,.int .i64 K1)],ks:=[1,2]}) (λx z b=>match x with|.inl G1=>{e:=.ret,L:=[(4,.bool false)]}|.inr G2=>{e:=.exit 0}) (λK1=>br [K 4 2] (ob (λ_ X2=>br [K 4 2,I 2 5 gT X2,K 5 0,al 9,Sn 9,O 9] (br [O 9] (rt []) (nd (λO1=>rt [wr 13 O1]))) (bs [O 9] 30 (rt [cd true]) (bs [] 34 (rt [cd true]) (ob (λX3 X4=>nd (λO2=>ob (λ_ X6=>br [O 9,I 8 10 bq X4,K 10 0,wr 40 O2,C (hrec_ref17_deep X3 (d1-1)) X6 [11,12,13,14] [] 15] (rt []) (nd (λO3=>rt [wr 13 O3])))))))))) (rt [])) (kS (kA λ_=>rt []) (kA λ_=>rt [])))
def hZ (n:Nat):Nat→cI→Int→Option Bool|0=>λ_ _=>none|k+1=>tR n (hZ n k)
def BZ (n:Nat) (d0:cI) (d1:Int):Option Bool:=hZ n n d0 d1
theorem ref17_deep_C (n:Nat) (d0:cI) (d1:Int) (z:Zs):oK (bq.facts d0 z) [] 100 [bq.ag d0 z,.int .i64 d1] (BZ n d0 d1) (λr y=>⟨.bool r,[],[]⟩):=by
 have key: ∀ (k:Nat) (d0:cI) (d1:Int) (z:Zs),oK (bq.facts d0 z) [] 100 [bq.ag d0 z,.int .i64 d1] (hZ n k d0 d1) (λr y=>⟨.bool r,[],[]⟩):=by
  intro k
  induction k with
  |zero=>intros;exact OkC.none
  |succ k ih=>exact Ca n (hZ n k) ih
 exact key n d0 d1 z
abbrev Ad (rec_ref17_counts:cI→Option (Int×Int)):Prop:=∀ (d0:cI) (z:Zs),OkC Tryz.prog (bq.facts d0 z) [] 101 [bq.ag d0 z] (rec_ref17_counts d0) (λr y=>⟨.tuple #[.int .i64 r.1,.int .i64 r.2],[],[]⟩)
def uE (n:Nat) (rec_ref17_counts:cI→Option (Int×Int)) (d0:cI) (K1:Int×Int×Int):Option (Lp (Int×Int×Int) (Int×Int)):=bif decide (K1.2.2<(d0.eR.length:Int)) then(aq d0.eR K1.2.2).bind λX1=>bif decide (X1.bB=[83,116,97,99,107]) then(aq d0.eR K1.2.2).bind λX3=>(aq X3.cO (0:Int)).bind λX5=>(rec_ref17_counts X5).bind λX7=>ar (inR .i64 (K1.1+X7.1))<|ar (inR .i64 (K1.2.1+X7.2))<|ar (inR .i64 (K1.2.2+1))<|some (.nx (K1.1+X7.1,K1.2.1+X7.2,K1.2.2+1)) else ar (inR .i64 (K1.1+1))<|ar (inR .i64 (K1.2.2+1))<|some (.nx (K1.1+1,K1.2.1,K1.2.2+1)) else some (.br (K1.1,K1.2.1))
def qe (n:Nat) (rec_ref17_counts:cI→Option (Int×Int)) (d0:cI):Option (Int×Int):=(av (uE n rec_ref17_counts d0) n ((0:Int),(1:Int),(0:Int))).bind λG1=>some (G1.1,G1.2)
theorem zj (n:Nat) (rec_ref17_counts:cI→Option (Int×Int)) (hrec_ref17_counts:Ad rec_ref17_counts) (d0:cI) (z:Zs):oK (bq.facts d0 z) [] 101 [bq.ag d0 z] (qe n rec_ref17_counts d0) (λr y=>⟨.tuple #[.int .i64 r.1,.int .i64 r.2],[],[]⟩):=
 fn 45 Tryz.func101 (lp [bx 4] {} (λK1 _ _=>{L:=[(4,.int .i64 K1.1),(5,.int .i64 K1.2.1),(6,.int .i64 K1.2.2)],ks:=[1]}) (λG1 _ _=>{e:=.exit 0,L:=[(4,.int .i64 G1.1),(5,.int .i64 G1.2)]}) (λK1=>br [K 4 2] (ob (λ_ X2=>br [K 4 2,I 2 5 gT X2,K 5 1] (ob (λ_ X4=>ob (λX5 X6=>ob (λ_ X8=>nd (λO1=>nd (λO2=>nd (λO3=>rt [K 4 2,I 2 9 gT X4,K 9 6,I 12 13 bq X6,K 13 0,C (hrec_ref17_counts X5) X8 [14,15,16,17] [] 18,wr 37 O1,wr 40 O2,wr 15 O3]))))))) (nd (λO4=>nd (λO5=>rt [wr 42 O4,wr 15 O5]))))) (rt [])) (kA λ_=>rt []))
def gP (n:Nat):Nat→cI→Option (Int×Int)|0=>λ_=>none|k+1=>qe n (gP n k)
def yt (n:Nat) (d0:cI):Option (Int×Int):=gP n n d0
theorem BY (n:Nat) (d0:cI) (z:Zs):oK (bq.facts d0 z) [] 101 [bq.ag d0 z] (yt n d0) (λr y=>⟨.tuple #[.int .i64 r.1,.int .i64 r.2],[],[]⟩):=by
 have key: ∀ (k:Nat) (d0:cI) (z:Zs),oK (bq.facts d0 z) [] 101 [bq.ag d0 z] (gP n k d0) (λr y=>⟨.tuple #[.int .i64 r.1,.int .i64 r.2],[],[]⟩):=by
  intro k
  induction k with
  |zero=>intros;exact OkC.none
  |succ k ih=>exact zj n (gP n k) ih
 exact key n d0 z
def xI (n:Nat) (d0:cI):Option cI:=some (⟨d0.bQ,d0.dL,([]:List wl),d0.bM⟩:cI)
theorem yr (n:Nat) (d0:cI) (z:Zs):oK (bq.facts d0 z) [] 102 [bq.ag d0 z] (xI n d0) (λr y=>⟨bq.ag r y,[],bq.facts r y⟩):=
 fn 5 Tryz.func102 (rt [al 4,al 5,S1 4,O 4,Sn 5,nf 6 7 cg] {is:=[0,1,6,3],rk:=[5]})
abbrev uV (rec_ref17_builder_put: (List cb)→(List cj)→cI→Int→(List ng)→(List ng)→Option (List cb×List cj)):Prop:=∀ (ax:List cb) (ay:List cj) (d1:cI) (d2:Int) (d3:List ng) (d4:List ng) (z:Zs),OkC Tryz.prog ([.seq 7 aT ax (z 9).k]++[.seq 11 aS ay (z 10).k]++bq.facts d1 (sh 2 z)++[.sli 2 dv (z 6).A (z 6).c d3]++[.sli 2 dv (z 7).A (z 7).c d4]) [.obj (z 8).b (.cells #[(z 9).sl ax.length,(z 10).sl ay.length] 200 (0,0)),.row 140 7 ((z 9).sl ax.length) ax.length (z 9).k,.row 128 11 ((z 10).sl ay.length) ay.length (z 10).k] 103 [.pointer (some ⟨(z 8).b,0,none⟩),bq.ag d1 (sh 2 z),.int .i64 d2,(z 6).sl d3.length,(z 7).sl d4.length] (rec_ref17_builder_put ax ay d1 d2 d3 d4) (λr y=>⟨.tuple #[],[.obj (z 8).b (.cells #[(y 3).sl r.1.length,(y 4).sl r.2.length] 200 (0,0)),.row 140 7 ((y 3).sl r.1.length) r.1.length (y 3).k,.row 128 11 ((y 4).sl r.2.length) r.2.length (y 4).k],[.seq 7 aT r.1 (y 3).k,.seq 11 aS r.2 (y 4).k]⟩)
def mM (n:Nat) (d2:Int) (X1:wl) (K2:Cy×Int):Option (Lp (Cy×Int) Cy):=bif decide (K2.2<(X1.cR.length:Int)) then(aq X1.cR K2.2).bind λX3=>ar ((K2.1.length+1)*24≤140737488355328)<|ar (inR .i64 (K2.2+1))<|some (.nx (K2.1++[(⟨d2,X3⟩:ng)],K2.2+1)) else some (.br K2.1)
def mN (n:Nat) (K1:Int×Ct×Cs) (G2:Cy) (K3:Int×List Bs):Option (Lp (Int×List Bs) (List Bs)):=bif decide (K3.1<(G2.length:Int)) then((aq G2 K3.1).bind λX15=>(aq G2 K3.1).bind λX17=>(aq K1.2.1 X15.cK).bind λX19=>ar (X19.cY.length+X17.aE.length≤9223372036854775807)<|ar ((K3.2.length+1)*16≤140737488355328)<|some (K3.2++[X19.cY++X17.aE]):Option (List Bs)).bind λG4=>ar (inR .i64 (K3.1+1))<|some (.nx (K3.1+1,G4)) else some (.br K3.2)
def mK (n:Nat) (rec_ref17_builder_put:Ct→Cs→cI→Int→Cy→Cy→Option (Ct×Cs)) (d1:cI) (d2:Int) (d3:Cy) (d4:Cy) (K1:Int×Ct×Cs):Option (Lp (Int×Ct×Cs) (Ct×Cs)):=bif decide (K1.1<(d1.eR.length:Int)) then(aq d1.eR K1.1).bind λX1=>ar ((([]:Cy).length+d3.length)*24≤140737488355328)<|ar ((([]:Cy).length+d4.length)*24≤140737488355328)<|(bif !(decide (X1.ef=[])) then ar (((([]:Cy)++d3).length+1)*24≤140737488355328)<|some ((([]:Cy)++d3)++[(⟨d2,X1.ef⟩:ng)]) else some (([]:Cy)++d3):Option Cy).bind λG1=>(av (mM n d2 X1) n (([]:Cy)++d4,(0:Int))).bind λG2=>(aq K1.2.1 d2).bind λX5=>ar (X5.cY.length+X1.ci.length≤9223372036854775807)<|bif decide (X1.bB=[83,116,97,99,107]) then(ar ((X5.cY++X1.ci).length+ [46].length≤9223372036854775807)<|(aq X1.cO (0:Int)).bind λX7=>(xI n X7).bind λX9=>ar ((K1.2.1.length+1)*144≤140737488355328)<|some (K1.2.1++[(⟨d2,(X5.cY++X1.ci)++[46],X9,X1.bk⟩:cb)]):Option Ct).bind λG3=>(aq X1.cO (0:Int)).bind λX11=>ar (inR .i64 ((G3.length:Int)-1))<|(rec_ref17_builder_put G3 K1.2.2 X11 ((G3.length:Int)-1) G1 G2).bind λX13=>ar (inR .i64 (K1.1+1))<|some (.nx (K1.1+1,X13.1,X13.2)) else(av (mN n K1 G2) n ((0:Int),([]:List Bs))).bind λG5=>(ar ((K1.2.2.length+1)*200≤140737488355328)<|some (G5,K1.2.2++[(⟨X5.cY++X1.ci,d2,X1,G1,G5⟩:cj)]):Option (List Bs×Cs)).bind λG6=>ar (inR .i64 (K1.1+1))<|some (.nx (K1.1+1,K1.2.1,G6.2)) else some (.br (K1.2.1,K1.2.2))
def jy (n:Nat) (rec_ref17_builder_put:Ct→Cs→cI→Int→Cy→Cy→Option (Ct×Cs)) (ax:Ct) (ay:Cs) (d1:cI) (d2:Int) (d3:Cy) (d4:Cy):Option (Ct×Cs):=(av (mK n rec_ref17_builder_put d1 d2 d3 d4) n ((0:Int),ax,ay)).bind λG7=>some (G7.1,G7.2)
set_option maxRecDepth 20000 in
theorem uP (n:Nat) (rec_ref17_builder_put:Ct→Cs→cI→Int→Cy→Cy→Option (Ct×Cs)) (hrec_ref17_builder_put:uV rec_ref17_builder_put) (ax:Ct) (ay:Cs) (d1:cI) (d2:Int) (d3:Cy) (d4:Cy) (z:Zs):oK ([qX 7 aT (z 9) ax]++[qX 11 aS (z 10) ay]++bq.facts d1 (sh 2 z)++[sX 2 dv (z 6) d3]++[sX 2 dv (z 7) d4]) [.obj (z 8).b (.cells #[wX (z 9) ax,wX (z 10) ay] 200 (0,0)),rX 140 7 (z 9) ax,rX 128 11 (z 10) ay] 103 [.pointer (some ⟨(z 8).b,0,none⟩),bq.ag d1 (sh 2 z),.int .i64 d2,wX (z 6) d3,wX (z 7) d4] (jy n rec_ref17_builder_put ax ay d1 d2 d3 d4) (λr y=>⟨.tuple #[],[.obj (z 8).b (.cells #[wX (y 3) r.1,wX (y 4) r.2] 200 (0,0)),rX 140 7 (y 3) r.1,rX 128 11 (y 4) r.2],[qX 7 aT (y 3) r.1,qX 11 aS (y 4) r.2]⟩):=
 fn 162 Tryz.func103 (lp [bx 8] {is:=[0,1],js:=[1,2]} (λK1 z _=>{L:=[(10,.int .i64 K1.1)],ks:=[0,2,3,4,6],E:=[(10,rX 140 7 (z 2) K1.2.1),(12,rX 128 11 (z 3) K1.2.2)],x:=[1,2],m:=[(0,0,(z 2).sl K1.2.1.length),(0,1,(z 3).sl K1.2.2.length)],F:=[(9,qX 7 aT (z 2) K1.2.1),(11,qX 11 aS (z 3) K1.2.2)]}) (λG7 z _=>{e:=.exit 0,E:=[(76,rX 140 7 (z 2) G7.1),(78,rX 128 11 (z 3) G7.2)],x:=[1,2],m:=[(0,0,(z 2).sl G7.1.length),(0,1,(z 3).sl G7.2.length)],F:=[(75,qX 7 aT (z 2) G7.1),(77,qX 11 aS (z 3) G7.2)]}) (λK1=>br [K 8 2] (ob (λX1 X2=>nd (λO1=>nd (λO2=>jn .no [K 8 2,I 4 13 gT X2,K 13 0,al 17,Sn 17,nr 18 19 218 uu,ap 18 19 6 20 uu O1,nr 21 22 218 uu,ap 21 22 7 23 uu O2,O 17] (λG1 z _=>{L:=[(12,(z 1).sl G1.length)],ks:=[0,2,3,4,6,10,11,13],E:=[(28,rX 218 2 (z 1) G1)],x:=[18],F:=[(27,qX 2 dv (z 1) G1)]}) (br [] (nd (λO3=>rt [O 17,ao 24,lk 24 25 uu [((⟨d2,X1.ef⟩:ng),[])],ap (ys:=[(⟨d2,X1.ef⟩:ng)]) 18 20 25 26 uu O3] {is:=[26],js:=[18]})) (rt [] {is:=[20],js:=[18]})) (kA λG1=>lp [] {is:=[23],js:=[21]} (λK2 z _=>{L:=[(13,(z 1).sl K2.1.length),(14,.int .i64 K2.2)],ks:=[0,2,3,4,6,10,11,12],E:=[(30,rX 218 2 (z 1) K2.1)],x:=[21],F:=[(29,qX 2 dv (z 1) K2.1)]}) (λG2 z _=>{e:=.exit 2,L:=[(13,(z 1).sl G2.length)],ks:=[0,2,3,4,6,10,11,12],E:=[(36,rX 218 2 (z 1) G2)],x:=[21],F:=[(35,qX 2 dv (z 1) G2)]}) (λK2=>br [O 17] (ob (λX3 X4=>nd (λO4=>nd (λO5=>rt [O 17,I 15 31 tS X4,K 31 0,ao 32,lk 32 33 uu [((⟨d2,X3⟩:ng),[])],ap (ys:=[(⟨d2,X3⟩:ng)]) 30 29 33 34 uu O4,wr 52 O5] {is:=[34],js:=[30]})))) (rt [] {is:=[29],js:=[30]})) (kA λG2=>ob (λX5 X6=>nd (λO6=>br [Re 10 9 37 iu X6,O 0,X 38,Rd 10 37 1,O 17,cat O6,O 17] (jn (.reg 16) [] (λG3 z _=>{ks:=[0,2,3,4,6,10,11,12,13],E:=[(58,rX 140 7 (z 1) G3)],x:=[10],m:=[(0,0,(z 1).sl G3.length)],F:=[(57,qX 7 aT (z 1) G3)]}) (nd (λO7=>ob (λX7 X8=>ob (λX9 X10=>nd (λO8=>rt [Ie 16 44 bq X8,ch [0,10] [],lo (O 0),cat (l:=X5.cY++X1.ci) (m:=[46]) O7,O 17,X 45,K 44 0,C (yr n X7) X10 [46,47,48,49] [] 50,O 17,th (ao 54) (lk 54 55 iu [((⟨d2,(X5.cY++X1.ci)++[46],X9,X1.bk⟩:cb),[50,51,52,53,14])]),ap (ys:=[(⟨d2,(X5.cY++X1.ci)++[46],X9,X1.bk⟩:cb)]) 10 9 55 56 iu O8,S1 0] {is:=[56],js:=[10]}))))) (kA λG3=>ob (λX11 X12=>nd (λO9=>ob (λ_ X14=>nd (λO10=>rt [Ie 16 59 bq X12,ri 28 27 65,ri 36 35 66,ch [0,12,58] [(111,⟨congrArg (Value.int .i64) (cD O9)⟩)],O 17,X 60,K 59 0,lo (O 0),C (hrec_ref17_builder_put G3 K1.2.2 X11 ((G3.length:Int)-1) G1 G2) X14 [57,11,61,62,63,64,65,66] [0,58,12] 67,wr 24 O10] {is:=[67,68],js:=[58,12]})))))) (lp [O 17,al 44,ri 28 27 45,Sn 44,nr 46 47 9 tS] {is:=[47],js:=[46]} (λK3 z _=>{L:=[(17,.int .i64 K3.1)],ks:=[0,2,3,4,6,10,13,16],E:=[(49,rX 9 1 (z 1) K3.2)],x:=[46],m:=[(44,10,(z 1).sl K3.2.length)],F:=[(48,qX 1 Dat.str (z 1) K3.2)]}) (λG5 z _=>{e:=.exit 4,ks:=[0,2,3,4,6,10,16],E:=[(67,rX 9 1 (z 1) G5)],x:=[46],m:=[(44,10,(z 1).sl G5.length)],F:=[(66,qX 1 Dat.str (z 1) G5)]}) (λK3=>br [] (jn (.reg 22) [] (λG4 z _=>{ks:=[0,2,3,4,6,10,13,16,17],E:=[(65,rX 9 1 (z 1) G4)],x:=[49],m:=[(44,10,(z 1).sl G4.length)],F:=[(64,qX 1 Dat.str (z 1) G4)]}) (ob (λ_ X16=>ob (λX17 X18=>ob (λX19 X20=>nd (λO11=>nd (λO12=>rt [Re 36 35 50 uu X16,Re 36 35 52 uu X18,Re 10 9 54 iu X20,ch [44,49] [],lo (O 44),O 0,X 51,Rd 36 50 0,X 55,Rd 10 54 1,X 53,Rd 36 52 1,cat O11,th (ao 61) (lk 61 62 tS [(X19.cY++X17.aE,[])]),ap (ys:=[X19.cY++X17.aE]) 49 48 62 63 tS O12,S1 44] {is:=[63],js:=[49]})))))) (kA λ_=>nd (λO13=>rt [wr 125 O13] {is:=[64],js:=[65]}))) (rt [] {is:=[48],js:=[49]})) (kA λG5=>jn (.reg 23) [] (λG6 z _=>{ks:=[0,2,3,4,6,10],E:=[(74,rX 128 11 (z 2) G6.2)],x:=[12,67],m:=[(44,10,(z 0).sl G6.1.length),(0,1,(z 2).sl G6.2.length)],F:=[(72,sX 1 Dat.str (z 0) G6.1),(73,qX 11 aS (z 2) G6.2)]}) (nd (λO14=>rt [ri 67 66 69,ch [0,12] [],lo (O 0),O 44,th (ao 68) (lk 68 70 iy [((⟨X5.cY++X1.ci,d2,X1,G1,G5⟩:cj),[14,15,16,45,69])]),ap (ys:=[(⟨X5.cY++X1.ci,d2,X1,G1,G5⟩:cj)]) 12 11 70 71 iy O14,S1 0] {is:=[69,71],js:=[12]})) (kA λ_=>nd (λO15=>rt [wr 24 O15] {is:=[9,73],js:=[10,74]})))))))))))) (rt [] {is:=[9,11],js:=[10,12]})) (kA λ_=>rt [] {is:=[75,77],js:=[0,76,78]}))
def dz (n:Nat):Nat→Ct→Cs→cI→Int→Cy→Cy→Option (Ct×Cs)|0=>λ_ _ _ _ _ _=>none|k+1=>jy n (dz n k)
def qO (n:Nat) (ax:Ct) (ay:Cs) (d1:cI) (d2:Int) (d3:Cy) (d4:Cy):Option (Ct×Cs):=dz n n ax ay d1 d2 d3 d4
theorem wK (n:Nat) (ax:Ct) (ay:Cs) (d1:cI) (d2:Int) (d3:Cy) (d4:Cy) (z:Zs):oK ([qX 7 aT (z 9) ax]++[qX 11 aS (z 10) ay]++bq.facts d1 (sh 2 z)++[sX 2 dv (z 6) d3]++[sX 2 dv (z 7) d4]) [.obj (z 8).b (.cells #[wX (z 9) ax,wX (z 10) ay] 200 (0,0)),rX 140 7 (z 9) ax,rX 128 11 (z 10) ay] 103 [.pointer (some ⟨(z 8).b,0,none⟩),bq.ag d1 (sh 2 z),.int .i64 d2,wX (z 6) d3,wX (z 7) d4] (qO n ax ay d1 d2 d3 d4) (λr y=>⟨.tuple #[],[.obj (z 8).b (.cells #[wX (y 3) r.1,wX (y 4) r.2] 200 (0,0)),rX 140 7 (y 3) r.1,rX 128 11 (y 4) r.2],[qX 7 aT (y 3) r.1,qX 11 aS (y 4) r.2]⟩):=by
 have key: ∀ (k:Nat) (ax:Ct) (ay:Cs) (d1:cI) (d2:Int) (d3:Cy) (d4:Cy) (z:Zs),oK ([qX 7 aT (z 9) ax]++[qX 11 aS (z 10) ay]++bq.facts d1 (sh 2 z)++[sX 2 dv (z 6) d3]++[sX 2 dv (z 7) d4]) [.obj (z 8).b (.cells #[wX (z 9) ax,wX (z 10) ay] 200 (0,0)),rX 140 7 (z 9) ax,rX 128 11 (z 10) ay] 103 [.pointer (some ⟨(z 8).b,0,none⟩),bq.ag d1 (sh 2 z),.int .i64 d2,wX (z 6) d3,wX (z 7) d4] (dz n k ax ay d1 d2 d3 d4) (λr y=>⟨.tuple #[],[.obj (z 8).b (.cells #[wX (y 3) r.1,wX (y 4) r.2] 200 (0,0)),rX 140 7 (y 3) r.1,rX 128 11 (y 4) r.2],[qX 7 aT (y 3) r.1,qX 11 aS (y 4) r.2]⟩):=by
  intro k
  induction k with
  |zero=>intros;exact OkC.none
  |succ k ih=>exact uP n (dz n k) ih
 exact key n ax ay d1 d2 d3 d4 z
def oB (n:Nat) (d0:Bs) (d1:Bs):Option Bool:=ar (inR .i64 ((d1.length:Int)+1))<|bif decide (((d1.length:Int)+1)<(d0.length:Int)) then ar (0≤(d1.length:Int)∧(d1.length:Int)≤d0.length)<|bif decide ((d0.take (d1.length:Int).toNat)=d1) then(aq d0 (d1.length:Int)).bind λsf=>some (decide (((sf).toNat:Int)=46)) else some (false) else some (false)
theorem BX (n:Nat) (d0:Bs) (d1:Bs) (z:Zs):oK ([]) [] 162 [S d0,S d1] (oB n d0 d1) (λr y=>⟨.bool r,[],[]⟩):=
 fn 26 Tryz.func162 (nd (λO1=>bs [wr 9 O1] 11 (nd (λO2=>bs [tG O2] 19 (ob (λ_ X1=>rt [si X1])) (rt []))) (rt [])))
def vL (n:Nat) (d0:ey) (d1:Bs) (K1:CD×Int):Option (Lp (CD×Int) CD):=bif decide (K1.2<(d0.aU.length:Int)) then(aq d0.aU K1.2).bind λX1=>(oB n X1.ci d1).bind λX3=>bif X3 then ar ((K1.1.length+1)*8≤140737488355328)<|ar (inR .i64 (K1.2+1))<|some (.nx (K1.1++[K1.2],K1.2+1)) else ar (inR .i64 (K1.2+1))<|some (.nx (K1.1,K1.2+1)) else some (.br K1.1)
def qM (n:Nat) (d0:ey) (d1:Bs):Option CD:=(av (vL n d0 d1) n (([]:CD),(0:Int))).bind λG1=>some (G1)
theorem ref17_Under_C (n:Nat) (d0:ey) (d1:Bs) (z:Zs):oK (dt.facts d0 z) [] 104 [dt.ag d0 z,S d1] (qM n d0 d1) (λr y=>⟨(y 1).sl r.length,[rX 3 1 (y 1) r],[qX 1 (Dat.int .i64) (y 1) r]⟩):=
 fn 27 Tryz.func104 (lp [bx 2,nr 3 4 3 (tI .i64)] {is:=[4],js:=[3]} (λK1 z _=>{L:=[(5,(z 1).sl K1.1.length),(6,.int .i64 K1.2)],ks:=[1,2],E:=[(6,rX 3 1 (z 1) K1.1)],x:=[3],F:=[(5,qX 1 (Dat.int .i64) (z 1) K1.1)]}) (λG1 z _=>{e:=.exit 0,L:=[(5,(z 1).sl G1.length)],E:=[(17,rX 3 1 (z 1) G1)],x:=[3],F:=[(16,qX 1 (Dat.int .i64) (z 1) G1)]}) (λK1=>br [K 2 1] (ob (λX1 X2=>ob (λ_ X4=>br [K 2 1,I 1 7 iy X2,K 7 0,C (BX n X1.ci d1) X4 [] [] 13] (nd (λO1=>nd (λO2=>rt [ao 13,lk 13 14 (tI .i64) [(K1.2,[])],ap (ys:=[K1.2]) 6 5 14 15 (tI .i64) O1,wr 13 O2] {is:=[15],js:=[6]}))) (nd (λO3=>rt [wr 13 O3] {is:=[5],js:=[6]}))))) (rt [] {is:=[5],js:=[6]})) (kA λ_=>rt [] {is:=[16],js:=[17]}))
def nJ (n:Nat) (d0:ey) (d1:Bs) (K1:Int):Option (Lp Int (Sum Unit Unit)):=bif decide (K1<(d0.aU.length:Int)) then(aq d0.aU K1).bind λX1=>bif decide (X1.ci=d1) then some (.br (.inl ())) else ar (inR .i64 (K1+1))<|some (.nx (K1+1)) else some (.br (.inr ()))
def oE (n:Nat) (d0:ey) (d1:Bs):Option Bool:=(av (nJ n d0 d1) n (0:Int)).bind λQ2=>(match Q2 with|.inl G1=>some (true)|.inr G2=>some (false))
theorem Cc (n:Nat) (d0:ey) (d1:Bs) (z:Zs):oK (dt.facts d0 z) [] 105 [dt.ag d0 z,S d1] (oE n d0 d1) (λr y=>⟨.bool r,[],[]⟩):=
 fn 21 Tryz.func105 (lp [bx 2] {} (λK1 _ _=>{L:=[(5,.int .i64 K1)],ks:=[1,2]}) (λx z b=>match x with|.inl G1=>{e:=.ret,L:=[(4,.bool true)]}|.inr G2=>{e:=.exit 0}) (λK1=>br [K 2 1] (ob (λ_ X2=>br [K 2 1,I 1 3 iy X2,K 3 0] (rt []) (nd (λO1=>rt [wr 12 O1])))) (rt [])) (kS (kA λ_=>rt []) (kA λ_=>rt [])))
def tV (n:Nat) (d0:List Bs) (d1:Bs) (K1:Int):Option (Lp Int (Sum Unit Unit)):=bif decide (K1<(d0.length:Int)) then(aq d0 K1).bind λX1=>bif decide (X1=d1) then some (.br (.inl ())) else ar (inR .i64 (K1+1))<|some (.nx (K1+1)) else some (.br (.inr ()))
def wy (n:Nat) (d0:List Bs) (d1:Bs):Option Bool:=(av (tV n d0 d1) n (0:Int)).bind λQ1=>(match Q1 with|.inl G1=>some (true)|.inr G2=>some (false))
theorem ref17_has_C (n:Nat) (d0:List Bs) (d1:Bs) (z:Zs):oK ([sX 1 Dat.str (z 0) d0]) [] 106 [wX (z 0) d0,S d1] (wy n d0 d1) (λr y=>⟨.bool r,[],[]⟩):=
 fn 18 Tryz.func106 (lp [] {} (λK1 _ _=>{L:=[(5,.int .i64 K1)],ks:=[0,1]}) (λx z b=>match x with|.inl G1=>{e:=.ret,L:=[(4,.bool true)]}|.inr G2=>{e:=.exit 0}) (λK1=>br [] (ob (λ_ X2=>br [I 0 1 tS X2,K 1 0] (rt []) (nd (λO1=>rt [wr 11 O1])))) (rt [])) (kS (kA λ_=>rt []) (kA λ_=>rt [])))
def sH (n:Nat) (K1:Int×Cs) (X15:CD) (K3:List Bs×Int):Option (Lp (List Bs×Int) (List Bs)):=bif decide (K3.2<(X15.length:Int)) then(aq X15 K3.2).bind λX21=>(aq K1.2 X21).bind λX23=>ar ((K3.1.length+1)*16≤140737488355328)<|ar (inR .i64 (K3.2+1))<|some (.nx (K3.1++[X23.ci],K3.2+1)) else some (.br K3.1)
def sJ (n:Nat) (G3:List Bs) (K4:List Bs×Int):Option (Lp (List Bs×Int) (List Bs)):=bif decide (K4.2<(G3.length:Int)) then(aq G3 K4.2).bind λX25=>(wy n K4.1 X25).bind λX27=>bif !X27 then(aq G3 K4.2).bind λX29=>ar ((K4.1.length+1)*16≤140737488355328)<|ar (inR .i64 (K4.2+1))<|some (.nx (K4.1++[X29],K4.2+1)) else ar (inR .i64 (K4.2+1))<|some (.nx (K4.1,K4.2+1)) else some (.br K4.1)
def sG (n:Nat) (X7:Ct×Cs) (K1:Int×Cs) (X9:cj) (K2:List Bs×Int):Option (Lp (List Bs×Int) (List Bs)):=bif decide (K2.2<(X9.ju.length:Int)) then(aq X9.ju K2.2).bind λX11=>(aq X9.ju K2.2).bind λX13=>(qM n (⟨X7.1,K1.2⟩:ey) X13).bind λX15=>(aq X9.ju K2.2).bind λX17=>(oE n (⟨X7.1,K1.2⟩:ey) X17).bind λX19=>(bif !X19 then some ([]:List Bs) else some ([X11]:List Bs):Option (List Bs)).bind λG2=>(av (sH n K1 X15) n (G2,(0:Int))).bind λG3=>(av (sJ n G3) n (K2.1,(0:Int))).bind λG4=>ar (inR .i64 (K2.2+1))<|some (.nx (G4,K2.2+1)) else some (.br K2.1)
def lK (n:Nat) (X7:Ct×Cs) (K1:Int×Cs):Option (Lp (Int×Cs) Cs):=bif decide (K1.1<(K1.2.length:Int)) then(aq K1.2 K1.1).bind λX9=>(av (sG n X7 K1 X9) n (([]:List Bs),(0:Int))).bind λG5=>(aq K1.2 K1.1).bind λX33=>ar (inR .i64 (K1.1+1))<|some (.nx (K1.1+1,K1.2.set K1.1.toNat (⟨X33.ci,X33.cK,X33.fR,X33.iD,G5⟩:cj))) else some (.br K1.2)
def ml (n:Nat) (d0:cI):Option (ey×Int):=(BZ n d0 (2:Int)).bind λX1=>bif !X1 then some (gG,(170:Int)) else(yt n d0).bind λX3=>(bif decide ((16:Int)<X3.1) then some (true) else some (decide ((16:Int)<X3.2)):Option Bool).bind λG1=>bif G1 then some (gG,(3:Int)) else(xI n d0).bind λX5=>(qO n [(⟨(-1:Int),([]:Bs),X5,([]:List TN0)⟩:cb)] ([]:Cs) d0 (0:Int) ([]:Cy) ([]:Cy)).bind λX7=>(av (lK n X7) n ((0:Int),X7.2)).bind λG6=>some ((⟨X7.1,G6⟩:ey),(0:Int))
set_option maxRecDepth 20000 in
theorem Ax (n:Nat) (d0:cI) (z:Zs):oK (bq.facts d0 z) [] 49 [bq.ag d0 z] (ml n d0) (λr y=>⟨.tuple #[dt.ag r.1 y,.int .i64 r.2],[],dt.facts r.1 y⟩):=
 fn 131 Tryz.func49 (ob (λ_ X2=>br [bx 4,al 5,K 4 0,C (ref17_deep_C n d0 (2:Int)) X2 [0,1,2,3] [] 6] (rt [Sn 5,nf 6 7 aT,nf 7 11 aS] {is:=[6,7],rk:=[5,0]}) (ob (λ_ X4=>jn (.reg 4) [K 4 0,C (BY n d0) X4 [0,1,2,3] [] 6] (λG1 _ _=>{L:=[(30,.bool G1)],ks:=[1,2]}) (bs [] 27 (rt []) (rt [])) (kA λ_=>br [] (rt [Sn 5,nf 6 7 aT,nf 7 11 aS] {is:=[6,7],rk:=[5,0]}) (ob (λX5 X6=>ob (λX7 X8=>lp [al 6,K 4 0,C (yr n d0) X6 [0,1,2,3] [] 7,ao 11,S1 6,K 4 0,nf 12 7 dJ,lr 11 13 iu [((⟨(-1:Int),([]:Bs),X5,([]:List TN0)⟩:cb),[7,8,9,10,12])],nr 14 15 128 iy,nf 16 2 dv,nf 17 2 dv,C (wK n [(⟨(-1:Int),([]:Bs),X5,([]:List TN0)⟩:cb)] ([]:Cs) d0 (0:Int) ([]:Cy) ([]:Cy)) X8 [13,15,0,1,2,3,16,17] [6,11,14] 18,O 6,al 20,Sn 20] {is:=[19],js:=[14]} (λK1 z _=>{L:=[(8,.int .i64 K1.1)],ks:=[2,7],E:=[(22,rX 128 11 (z 1) K1.2)],x:=[14],m:=[(20,1,(z 1).sl K1.2.length)],F:=[(21,qX 11 aS (z 1) K1.2)]}) (λG6 z _=>{e:=.exit 0,ks:=[2,7],E:=[(87,rX 128 11 (z 1) G6)],x:=[14],m:=[(20,1,(z 1).sl G6.length)],F:=[(86,qX 11 aS (z 1) G6)]}) (λK1=>br [O 20] (ob (λ_ X10=>lp [O 20,Re 22 21 23 iy X10,X 24,Rd 22 23 10,nr 30 31 9 tS] {is:=[31],js:=[30]} (λK2 z _=>{L:=[(9,(z 1).sl K2.1.length),(11,.int .i64 K2.2)],ks:=[2,7,8,10],E:=[(33,rX 9 1 (z 1) K2.1)],x:=[30],F:=[(32,qX 1 Dat.str (z 1) K2.1)]}) (λG5 z _=>{e:=.exit 2,L:=[(9,(z 1).sl G5.length)],ks:=[2,7,8],E:=[(76,rX 9 1 (z 1) G5)],x:=[30],F:=[(75,qX 1 Dat.str (z 1) G5)]}) (λK2=>br [] (ob (λX11 X12=>ob (λX13 X14=>ob (λ_ X16=>ob (λX17 X18=>ob (λ_ X20=>jn .no [I 29 34 tS X12,K 34 0,ao 35,Ie 29 36 tS X14,O 20,X 37,K 36 0,CLr (flat_int _) (ref17_Under_C n (⟨X7.1,K1.2⟩:ey) X13) X16 [38,39] [(11,18,38),(22,21,39)] 40,Ie 29 41 tS X18,O 20,X 42,K 41 0,CL (Cc n (⟨X7.1,K1.2⟩:ey) X17) X20 [43,44] [(11,18,43),(22,21,44)]] (λG2 z _=>{L:=[(12,(z 1).sl G2.length)],ks:=[2,7,8,9,10,11,13],E:=[(46,rX 9 1 (z 1) G2)],x:=[35],F:=[(45,qX 1 Dat.str (z 1) G2)]}) (br [] (rt [nr 45 46 9 tS] {is:=[46],js:=[45]}) (rt [lr 35 45 tS [(X11,[])]] {is:=[45],js:=[35]})) (kA λ_=>lp [] {is:=[45],js:=[46]} (λK3 z _=>{L:=[(12,(z 1).sl K3.1.length),(14,.int .i64 K3.2)],ks:=[2,7,8,9,10,11,13],E:=[(48,rX 9 1 (z 1) K3.1)],x:=[46],F:=[(47,qX 1 Dat.str (z 1) K3.1)]}) (λG3 z _=>{e:=.exit 4,L:=[(12,(z 1).sl G3.length)],ks:=[2,7,8,9,10,11],E:=[(62,rX 9 1 (z 1) G3)],x:=[46],F:=[(61,qX 1 Dat.str (z 1) G3)]}) (λK3=>br [] (ob (λ_ X22=>ob (λX23 X24=>nd (λO1=>nd (λO2=>rt [Re 40 40 49 (tI .i64) X22,Re 22 21 51 iy X24,ch [48] [],O 20,X 50,Rd 40 49 0,X 52,Rd 22 51 0,th (ao 58) (lk 58 59 tS [(X23.ci,[])]),ap (ys:=[X23.ci]) 48 47 59 60 tS O1,wr 91 O2] {is:=[60],js:=[48]}))))) (rt [] {is:=[47],js:=[48]})) (kA λ_=>lp [] {is:=[32],js:=[33]} (λK4 z _=>{L:=[(9,(z 1).sl K4.1.length),(15,.int .i64 K4.2)],ks:=[2,7,8,10,11,12],E:=[(64,rX 9 1 (z 1) K4.1)],x:=[33],F:=[(63,qX 1 Dat.str (z 1) K4.1)]}) (λG4 z _=>{e:=.exit 6,L:=[(9,(z 1).sl G4.length)],ks:=[2,7,8,10,11],E:=[(74,rX 9 1 (z 1) G4)],x:=[33],F:=[(73,qX 1 Dat.str (z 1) G4)]}) (λK4=>br [] (ob (λX25 X26=>ob (λ_ X28=>br [Re 62 61 65 tS X26,X 66,Rd 62 65 0,CL (ref17_has_C n K4.1 X25) X28 [67] [(64,63,67)]] (ob (λX29 X30=>nd (λO3=>nd (λO4=>rt [Re 62 61 68 tS X30,X 69,Rd 62 68 0,ao 70,lk 70 71 tS [(X29,[])],ap (ys:=[X29]) 64 63 71 72 tS O3,wr 109 O4] {is:=[72],js:=[64]})))) (nd (λO5=>rt [wr 109 O5] {is:=[63],js:=[64]}))))) (rt [] {is:=[63],js:=[64]})) (kA λ_=>nd (λO6=>rt [wr 67 O6] {is:=[73],js:=[74]})))))))))) (rt [] {is:=[32],js:=[33]})) (kA λG5=>ob (λX33 X34=>nd (λO7=>rt [O 20,Re 22 21 77 iy X34,X 78,ri 76 75 84,Sf 22 21 77 85 10 iy X34 (⟨X33.ci,X33.cK,X33.fR,X33.iD,G5⟩:cj) [79,80,81,82,84] [] [(20,1)],wr 55 O7] {is:=[85],js:=[22]}))))) (rt [] {is:=[21],js:=[22]})) (kA λ_=>rt [O 20,Sn 5,ri 11 18 88,ri 87 86 89] {is:=[88,89],rk:=[5,0]})))))))))
open Go.Ck
def nI (n:Nat) (d0:Cw) (d1:Bs) (K1:Int):Option (Lp Int (Sum Unit Unit)):=bif decide (K1<(d0.length:Int)) then(aq d0 K1).bind λX1=>bif decide (X1.aE=d1) then some (.br (.inl ())) else ar (inR .i64 (K1+1))<|some (.nx (K1+1)) else some (.br (.inr ()))
def oD (n:Nat) (d0:Cw) (d1:Bs):Option Bool:=(av (nI n d0 d1) n (0:Int)).bind λQ1=>(match Q1 with|.inl G1=>some (true)|.inr G2=>some (false))
theorem Cb (n:Nat) (d0:Cw) (d1:Bs) (z:Zs):oK ([sX 15 bb (z 0) d0]) [] 245 [wX (z 0) d0,S d1] (oD n d0 d1) (λr y=>⟨.bool r,[],[]⟩):=
 fn 19 Tryz.func245 (lp [] {} (λK1 _ _=>{L:=[(5,.int .i64 K1)],ks:=[0,1]}) (λx z b=>match x with|.inl G1=>{e:=.ret,L:=[(4,.bool true)]}|.inr G2=>{e:=.exit 0}) (λK1=>br [] (ob (λ_ X2=>br [I 0 1 bJ X2,K 1 0] (rt []) (nd (λO1=>rt [wr 11 O1])))) (rt [])) (kS (kA λ_=>rt []) (kA λ_=>rt [])))
def tW (n:Nat) (d0:ey) (K1:Int):Option (Lp Int (Sum Unit Unit)):=bif decide (K1<(d0.aV.length:Int)) then(aq d0.aV K1).bind λX3=>bif decide (X3.gf<0) then some (.br (.inl ())) else(aq d0.aV K1).bind λX5=>bif decide (K1≤X5.gf) then some (.br (.inl ())) else ar (inR .i64 (K1+1))<|some (.nx (K1+1)) else some (.br (.inr ()))
def tY (n:Nat) (d0:ey) (X7:cj) (K3:Int):Option (Lp Int (Sum Unit Unit)):=bif decide (K3<(X7.iD.length:Int)) then(aq X7.iD K3).bind λX9=>bif decide (X9.cK<0) then some (.br (.inl ())) else bif decide ((d0.aV.length:Int)≤X9.cK) then some (.br (.inl ())) else(aq d0.aV X9.cK).bind λX11=>(oD n X11.fT.dL X9.aE).bind λX13=>bif !X13 then some (.br (.inl ())) else ar (inR .i64 (K3+1))<|some (.nx (K3+1)) else some (.br (.inr ()))
def tX (n:Nat) (d0:ey) (K2:Int):Option (Lp Int (Sum Unit Unit)):=bif decide (K2<(d0.aU.length:Int)) then(aq d0.aU K2).bind λX7=>(bif decide (X7.cK<0) then some (true) else some (decide ((d0.aV.length:Int)≤X7.cK)):Option Bool).bind λG4=>bif G4 then some (.br (.inl ())) else(av (tY n d0 X7) n (0:Int)).bind λQ5=>(match Q5 with|.inl G5=>some (.br (.inl ()))|.inr G6=>ar (inR .i64 (K2+1))<|some (.nx (K2+1))) else some (.br (.inr ()))
def wz (n:Nat) (d0:ey):Option Bool:=(bif decide ((d0.aV.length:Int)=0) then some (true) else(aq d0.aV (0:Int)).bind λX1=>some (!(decide (X1.gf=(-1)))):Option Bool).bind λG1=>bif G1 then some (false) else(av (tW n d0) n (1:Int)).bind λQ2=>(match Q2 with|.inl G2=>some (false)|.inr G3=>(av (tX n d0) n (0:Int)).bind λQ3=>(match Q3 with|.inl G7=>some (false)|.inr G8=>some (true)))
set_option maxRecDepth 20000 in
theorem ref17_may_C (n:Nat) (d0:ey) (z:Zs):oK (dt.facts d0 z) [] 211 [dt.ag d0 z] (wz n d0) (λr y=>⟨.bool r,[],[]⟩):=
 fn 104 Tryz.func211 (jn (.reg 1) [bx 2] (λG1 _ _=>{L:=[(19,.bool G1)],ks:=[1]}) (bs [K 2 0] 12 (rt []) (ob (λ_ X2=>rt [K 2 0,I 0 3 iu X2,K 3 0]))) (kA λ_=>br [] (rt []) (lp [] {} (λK1 _ _=>{L:=[(3,.int .i64 K1)],ks:=[1]}) (λx z b=>match x with|.inl G2=>{e:=.ret,L:=[(2,.bool false)]}|.inr G3=>{e:=.exit 0,ks:=[1]}) (λK1=>br [K 2 0] (ob (λ_ X4=>bs [K 2 0,I 0 9 iu X4,K 9 0] 34 (rt [cd true]) (ob (λ_ X6=>br [K 2 0,I 0 15 iu X6,K 15 0] (rt []) (nd (λO1=>rt [wr 26 O1])))))) (rt [])) (kS (kA λ_=>rt []) (kA λ_=>lp [] {} (λK2 _ _=>{L:=[(4,.int .i64 K2)],ks:=[1]}) (λx z b=>match x with|.inl G7=>{e:=.ret,L:=[(2,.bool false)]}|.inr G8=>{e:=.exit 2}) (λK2=>br [K 2 1] (ob (λ_ X8=>jn (.reg 12) [K 2 1,I 1 21 iy X8,K 21 0,al 27,Sn 27] (λG4 _ _=>{L:=[(66,.bool G4)],ks:=[1,4,5]}) (bs [O 27] 59 (rt []) (rt [O 27,K 2 0])) (kA λ_=>br [] (rt []) (lp [] {} (λK3 _ _=>{L:=[(6,.int .i64 K3)],ks:=[1,4,5]}) (λx z b=>match x with|.inl G5=>{e:=.ret,L:=[(2,.bool false)]}|.inr G6=>{e:=.exit 4,ks:=[1,4]}) (λK3=>br [O 27] (ob (λX9 X10=>bh (.reg 18) [O 27,I 25 28 uu X10,K 28 0,al 29,Sn 29] (λB10=>rt [ch [] [(82,⟨cB B10⟩)],O 29,cd true,cd true,cd true,cd true,cd true,cd true,cd true,cd true,cd true]) (λB10=>bh (.reg 18) [] (λB11=>rt [ch [] [(82,⟨cB B10⟩),(90,⟨cB B11⟩)],O 29,O 29,K 2 0,cd true,cd true,cd true,cd true,cd true,cd true,cd true]) (λB11=>ob (λX11 X12=>ob (λ_ X14=>br [Ie 0 30 iu X12,ch [] [(82,⟨cB B10⟩),(90,⟨cB B11⟩)],O 29,O 29,K 2 0,K 2 0,O 29,X 31,K 30 3,O 29,C (Cb n X11.fT.dL X9.aE) X14 [33] [] 37] (rt []) (nd (λO2=>rt [wr 73 O2])))))))) (rt [])) (kS (kA λ_=>rt []) (kA λ_=>nd (λO3=>rt [wr 50 O3]))))))) (rt [])) (kS (kA λ_=>rt []) (kA λ_=>rt [])))))))
def uD (n:Nat) (K1:List Cp×Int) (X7:cb) (K2:Cp×Int):Option (Lp (Cp×Int) Cp):=bif decide (K2.2<(X7.bG.length:Int)) then(aq X7.bG K2.2).bind λX9=>((aq X7.bG K2.2).bind λX11=>(aq K1.1 X7.gf).bind λX13=>(iU n X11.fE X13).bind λX15=>some (X15.1,X15.2):Option (aG×Int)).bind λG1=>(bif decide (G1.2=0) then some (⟨X9.aE,(G1.1.dw),G1.1.fV⟩:aG) else some (⟨X9.aE,(true),cU⟩:aG):Option aG).bind λG2=>ar ((K2.1.length+1)*104≤140737488355328)<|ar (inR .i64 (K2.2+1))<|some (.nx (K2.1++[G2],K2.2+1)) else some (.br K2.1)
def uC (n:Nat) (d0:ey) (K1:List Cp×Int):Option (Lp (List Cp×Int) (Sum Unit (List Cp))):=bif decide (K1.2<(d0.aV.length:Int)) then(aq d0.aV K1.2).bind λX7=>(av (uD n K1 X7) n (([]:Cp),(0:Int))).bind λG3=>(iQ n X7.fT.bQ G3).bind λX17=>bif !(decide (X17.2.2=0)) then some (.br (.inl ())) else ar ((K1.1.length+1)*24≤140737488355328)<|ar (inR .i64 (K1.2+1))<|some (.nx (K1.1++[X17.1],K1.2+1)) else some (.br (.inr K1.1))
def kJ (n:Nat) (d0:ey) (d1:Cp):Option (List Cp×Int):=(wz n d0).bind λX1=>bif !X1 then some (([]:List Cp),(2:Int)) else(aq d0.aV (0:Int)).bind λX3=>(iQ n X3.fT.bQ d1).bind λX5=>bif !(decide (X5.2.2=0)) then some (([]:List Cp),X5.2.2) else(av (uC n d0) n ([X5.1],(1:Int))).bind λQ3=>(match Q3 with|.inl G4=>some (([]:List Cp),(170:Int))|.inr G5=>some (G5,(0:Int)))
set_option maxRecDepth 20000 in
theorem vK (n:Nat) (d0:ey) (d1:Cp) (z:Zs):oK (dt.facts d0 z++[sX 8 aj (z 2) d1]) [] 166 [dt.ag d0 z,wX (z 2) d1] (kJ n d0 d1) (λr y=>⟨.tuple #[wX (y 1) r.1,.int .i64 r.2],[rX 24 1 (y 1) r.1],[qX 1 (eL 8 aj) (y 1) r.1]⟩):=
 fn 109 Tryz.func166 (ob (λ_ X2=>br [bx 3,K 3 0,C (ref17_may_C n d0) X2 [0,1] [] 4] (rt [nr 4 5 24 (tL 8 aj)] {is:=[5],js:=[4]}) (ob (λX3 X4=>ob (λX5 X6=>br [K 3 0,I 0 4 iu X4,K 4 2,C (tD n X3.fT.bQ d1) X6 [5,2] [] 10] (rt [nr 11 12 24 (tL 8 aj)] {is:=[12],js:=[11]}) (lp [ao 11,ri 10 10 12,lr 11 13 (tL 8 aj) [(X5.1,[12])]] {is:=[13],js:=[11]} (λK1 z _=>{L:=[(9,(z 1).sl K1.1.length),(10,.int .i64 K1.2)],ks:=[2],E:=[(15,rX 24 1 (z 1) K1.1)],x:=[11],F:=[(14,qX 1 (eL 8 aj) (z 1) K1.1)]}) (λx z b=>match x with|.inl G4=>{e:=.ret,L:=[(4,.slice none 0 0),(5,.int .i64 170)],x:=[11]}|.inr G5=>{e:=.exit 0,L:=[(9,(z 1).sl G5.length)],E:=[(56,rX 24 1 (z 1) G5)],x:=[11],F:=[(55,qX 1 (eL 8 aj) (z 1) G5)]}) (λK1=>br [K 3 0] (ob (λX7 X8=>lp [K 3 0,I 0 16 iu X8,K 16 0,al 22,Sn 22,nr 23 24 186 bc] {is:=[24],js:=[23]} (λK2 z _=>{L:=[(12,(z 1).sl K2.1.length),(13,.int .i64 K2.2)],ks:=[2,9,10,11],E:=[(26,rX 186 8 (z 1) K2.1)],x:=[23],F:=[(25,qX 8 aj (z 1) K2.1)]}) (λG3 z _=>{e:=.exit 2,L:=[(12,(z 1).sl G3.length)],ks:=[2,9,10,11],E:=[(48,rX 186 8 (z 1) G3)],x:=[23],F:=[(47,qX 8 aj (z 1) G3)]}) (λK2=>br [O 22] (ob (λ_ X10=>jn (.reg 16) [O 22,I 21 27 qu X10,K 27 0,al 29,Sn 29] (λG1 z _=>{L:=[(15,.pointer (some (z 0).ad)),(16,.int .i64 G1.2)],ks:=[2,9,10,11,12,13,14],F:=[(39,.kn (z 0).ad (bc.cells G1.1 (sh 1 z)))]++nums 40 (bc.facts G1.1 (sh 1 z))}) (ob (λX11 X12=>ob (λX13 X14=>ob (λ_ X16=>rt [Ie 21 30 qu X12,Re 15 14 33 (tL 8 aj) X14,O 22,X 31,K 30 1,O 22,X 34,Rd 15 33 0,C (rE n X11.fE X13) X16 [32,35] [] 36,al 38,Sn 38,fz 38 39] {is:=[39,36,37]})))) (kA λ_=>jn .no [] (λG2 z _=>{ks:=[2,9,10,11,12,13,14],o:=[(29,.cells (bc.cells G2 z).toArray 186 (0,0))],F:=nums 42 (bc.facts G2 z)}) (br [] (rt [K 39 1,S1 29,K 39 2,Sn 29] {is:=[40,41]}) (rt [nf 42 6 aw,nf 43 1 Dat.str] {is:=[42,43]})) (kA λG2=>nd (λO1=>nd (λO2=>rt [O 29,ao 44,lk 44 45 bc [(G2,[42,43])],ap (ys:=[G2]) 26 25 45 46 bc O1,wr 58 O2] {is:=[46],js:=[26]})))))) (rt [] {is:=[25],js:=[26]})) (kA λG3=>ob (λX17 X18=>br [O 22,ri 48 47 49,C (tD n X7.fT.bQ G3) X18 [17,49] [] 50] (rt []) (nd (λO3=>nd (λO4=>rt [ao 51,ri 50 50 52,lk 51 53 (tL 8 aj) [(X17.1,[52])],ap (ys:=[X17.1]) 15 14 53 54 (tL 8 aj) O3,wr 46 O4] {is:=[54],js:=[15]}))))))) (rt [] {is:=[14],js:=[15]})) (kS (kA λ_=>rt [nr 55 56 24 (tL 8 aj)] {is:=[56],js:=[55]}) (kA λ_=>rt [] {is:=[55],js:=[56]}))))))))
def vH (n:Nat) (d0:ey) (X1:List Cp×Int) (K1:List Cp×Int):Option (Lp (List Cp×Int) (Sum Int (List Cp))):=bif decide (K1.2<(d0.aV.length:Int)) then(aq d0.aV K1.2).bind λX3=>(aq X1.1 K1.2).bind λX5=>(ww n X3.fT.dL X5).bind λX7=>bif !(decide (X7.2=0)) then some (.br (.inl X7.2)) else ar ((K1.1.length+1)*24≤140737488355328)<|ar (inR .i64 (K1.2+1))<|some (.nx (K1.1++[X7.1],K1.2+1)) else some (.br (.inr K1.1))
def dp (n:Nat) (d0:ey) (d1:Cp):Option (List Cp×Int):=(kJ n d0 d1).bind λX1=>bif !(decide (X1.2=0)) then some (([]:List Cp),X1.2) else(av (vH n d0 X1) n (([]:List Cp),(0:Int))).bind λQ2=>(match Q2 with|.inl G1=>some (([]:List Cp),G1)|.inr G2=>some (G2,(0:Int)))
theorem rQ (n:Nat) (d0:ey) (d1:Cp) (z:Zs):oK (dt.facts d0 z++[sX 8 aj (z 2) d1]) [] 110 [dt.ag d0 z,wX (z 2) d1] (dp n d0 d1) (λr y=>⟨.tuple #[wX (y 1) r.1,.int .i64 r.2],[rX 24 1 (y 1) r.1],[qX 1 (eL 8 aj) (y 1) r.1]⟩):=
 fn 51 Tryz.func110 (ob (λ_ X2=>br [bx 3,K 3 0,C (vK n d0 d1) X2 [0,1,2] [] 4] (rt [nr 5 6 24 (tL 8 aj)] {is:=[6],js:=[5]}) (lp [nr 5 6 24 (tL 8 aj)] {is:=[6],js:=[5]} (λK1 z _=>{L:=[(8,(z 1).sl K1.1.length),(9,.int .i64 K1.2)],ks:=[2,6],E:=[(8,rX 24 1 (z 1) K1.1)],x:=[5],F:=[(7,qX 1 (eL 8 aj) (z 1) K1.1)]}) (λx z b=>match x with|.inl G1=>{e:=.ret,L:=[(5,.int .i64 G1),(4,.slice none 0 0)],x:=[5]}|.inr G2=>{e:=.exit 0,L:=[(8,(z 1).sl G2.length)],E:=[(25,rX 24 1 (z 1) G2)],x:=[5],F:=[(24,qX 1 (eL 8 aj) (z 1) G2)]}) (λK1=>br [K 3 0] (ob (λX3 X4=>ob (λX5 X6=>ob (λX7 X8=>br [Ie 0 9 iu X4,Re 4 4 16 (tL 8 aj) X6,K 3 0,X 10,K 9 3,X 17,Rd 4 16 0,C (ref15_Run_C n X3.fT.dL X5) X8 [12,18] [] 19] (rt []) (nd (λO1=>nd (λO2=>rt [ao 20,ri 19 19 21,lk 20 22 (tL 8 aj) [(X7.1,[21])],ap (ys:=[X7.1]) 8 7 22 23 (tL 8 aj) O1,wr 27 O2] {is:=[23],js:=[8]}))))))) (rt [] {is:=[7],js:=[8]})) (kS (kA λ_=>rt [nr 24 25 24 (tL 8 aj)] {is:=[25],js:=[24]}) (kA λ_=>rt [] {is:=[24],js:=[25]})))))
def vI (n:Nat) (d0:List Cp) (d1:Int) (d2:Bs) (K1:Int):Option (Lp Int (Sum Bool Unit)):=(aq d0 d1).bind λX1=>bif decide (K1<(X1.length:Int)) then(aq d0 d1).bind λX3=>(aq X3 K1).bind λX5=>bif decide (X5.aE=d2) then(aq d0 d1).bind λX7=>(aq X7 K1).bind λX9=>some (.br (.inl (X9.fV.so))) else ar (inR .i64 (K1+1))<|some (.nx (K1+1)) else some (.br (.inr ()))
def gW (n:Nat) (d0:List Cp) (d1:Int) (d2:Bs):Option Bool:=bif decide (d2=[]) then some (true) else(bif decide (d1<0) then some (true) else some (decide ((d0.length:Int)≤d1)):Option Bool).bind λG1=>bif G1 then some (false) else(av (vI n d0 d1 d2) n (0:Int)).bind λQ1=>(match Q1 with|.inl G2=>some (G2)|.inr G3=>some (false))
theorem jG (n:Nat) (d0:List Cp) (d1:Int) (d2:Bs) (z:Zs):oK ([sX 1 (eL 8 aj) (z 0) d0]) [] 111 [wX (z 0) d0,.int .i64 d1,S d2] (gW n d0 d1 d2) (λr y=>⟨.bool r,[],[]⟩):=
 fn 46 Tryz.func111 (br [] (rt []) (jn (.reg 3) [] (λG1 _ _=>{L:=[(17,.bool G1)],ks:=[0,1,2]}) (bs [] 12 (rt []) (rt [])) (kA λ_=>br [] (rt []) (lp [] {} (λK1 _ _=>{L:=[(7,.int .i64 K1)],ks:=[0,1,2]}) (λx z b=>match x with|.inl G2=>{e:=.ret,L:=[(6,.bool G2)]}|.inr G3=>{e:=.exit 0}) (λK1=>ob (λ_ X2=>br [I 0 1 (tL 8 aj) X2,K 1 0] (ob (λ_ X4=>ob (λ_ X6=>br [I 0 3 (tL 8 aj) X4,K 3 0,I 4 5 bc X6,K 5 0] (ob (λ_ X8=>ob (λ_ X10=>rt [I 0 8 (tL 8 aj) X8,K 8 0,I 9 10 bc X10,K 10 3]))) (nd (λO1=>rt [wr 26 O1]))))) (rt []))) (kS (kA λ_=>rt []) (kA λ_=>rt []))))))
def sF (n:Nat) (d0:ey) (X1:List Cp×Int) (K1:CE×Int) (K2:Bool×Int):Option (Lp (Bool×Int) Bool):=(aq d0.aU K1.2).bind λX3=>bif decide (K2.2<(X3.iD.length:Int)) then(aq d0.aU K1.2).bind λX5=>(aq X5.iD K2.2).bind λX7=>bif K2.1 then(gW n X1.1 X7.cK X7.aE).bind λX9=>ar (inR .i64 (K2.2+1))<|some (.nx ((X9),K2.2+1)) else ar (inR .i64 (K2.2+1))<|some (.nx ((false),K2.2+1)) else some (.br (K2.1))
def sE (n:Nat) (d0:ey) (X1:List Cp×Int) (K1:CE×Int):Option (Lp (CE×Int) CE):=bif decide (K1.2<(d0.aU.length:Int)) then(av (sF n d0 X1 K1) n ((true),(0:Int))).bind λG1=>ar ((K1.1.length+1)*1≤140737488355328)<|ar (inR .i64 (K1.2+1))<|some (.nx (K1.1++[(G1)],K1.2+1)) else some (.br K1.1)
def io (n:Nat) (d0:ey) (d1:Cp):Option (CE×Int):=(dp n d0 d1).bind λX1=>bif !(decide (X1.2=0)) then some (([]:CE),X1.2) else(av (sE n d0 X1) n (([]:CE),(0:Int))).bind λG2=>some (G2,(0:Int))
theorem nH (n:Nat) (d0:ey) (d1:Cp) (z:Zs):oK (dt.facts d0 z++[sX 8 aj (z 2) d1]) [] 52 [dt.ag d0 z,wX (z 2) d1] (io n d0 d1) (λr y=>⟨.tuple #[wX (y 1) r.1,.int .i64 r.2],[rX 4 1 (y 1) r.1],[qX 1 Dat.bool (y 1) r.1]⟩):=
 fn 63 Tryz.func52 (ob (λX1 X2=>br [bx 3,K 3 0,C (rQ n d0 d1) X2 [0,1,2] [] 4] (rt [nr 5 6 4 tB] {is:=[6],js:=[5]}) (lp [nr 5 6 4 tB] {is:=[6],js:=[5]} (λK1 z _=>{L:=[(8,(z 1).sl K1.1.length),(9,.int .i64 K1.2)],ks:=[2,6],E:=[(8,rX 4 1 (z 1) K1.1)],x:=[5],F:=[(7,qX 1 Dat.bool (z 1) K1.1)]}) (λG2 z _=>{e:=.exit 0,L:=[(8,(z 1).sl G2.length)],E:=[(28,rX 4 1 (z 1) G2)],x:=[5],F:=[(27,qX 1 Dat.bool (z 1) G2)]}) (λK1=>br [K 3 1] (lp [] {} (λK2 _ _=>{L:=[(10,.bool K2.1),(11,.int .i64 K2.2)],ks:=[2,6,8,9]}) (λG1 _ _=>{e:=.exit 2,L:=[(10,.bool G1)],ks:=[2,6,8,9]}) (λK2=>ob (λ_ X4=>br [K 3 1,I 1 9 iy X4,K 9 9] (ob (λ_ X6=>ob (λX7 X8=>bs [K 3 1,I 1 15 iy X6,K 15 9,I 19 21 uu X8,K 21 0,al 22,Sn 22] 50 (ob (λ_ X10=>nd (λO1=>rt [O 22,O 22,CL (jG n X1.1 X7.cK X7.aE) X10 [23] [(4,4,23)],wr 39 O1]))) (nd (λO2=>rt [wr 39 O2]))))) (rt []))) (kA λG1=>nd (λO3=>nd (λO4=>rt [ao 24,lk 24 25 tB [((G1),[])],ap (ys:=[(G1)]) 8 7 25 26 tB O3,wr 28 O4] {is:=[26],js:=[8]})))) (rt [] {is:=[7],js:=[8]})) (kA λ_=>rt [] {is:=[27],js:=[28]}))))
def xe (n:Nat) (d0:ey) (d1:Int) (d2:Bs) (K1:Int):Option (Lp Int (Sum Int Unit)):=bif decide (K1<(d0.aU.length:Int)) then((aq d0.aU K1).bind λX1=>bif decide (X1.cK=d1) then(aq d0.aU K1).bind λX3=>(aq d0.aV d1).bind λX5=>ar (X5.cY.length+d2.length≤9223372036854775807)<|some (decide (X3.ci=(X5.cY++d2))) else some (false):Option Bool).bind λG2=>bif G2 then some (.br (.inl K1)) else ar (inR .i64 (K1+1))<|some (.nx (K1+1)) else some (.br (.inr ()))
def kb (n:Nat) (d0:ey) (d1:Int) (d2:Bs):Option (Int×Bool):=(bif decide (d1<0) then some (true) else some (decide ((d0.aV.length:Int)≤d1)):Option Bool).bind λG1=>bif G1 then some ((0:Int),(false)) else(av (xe n d0 d1 d2) n (0:Int)).bind λQ2=>(match Q2 with|.inl G3=>some (G3,(true))|.inr G4=>some ((0:Int),(false)))
theorem yq (n:Nat) (d0:ey) (d1:Int) (d2:Bs) (z:Zs):oK (dt.facts d0 z) [] 244 [dt.ag d0 z,.int .i64 d1,S d2] (kb n d0 d1 d2) (λr y=>⟨.tuple #[.int .i64 r.1,.bool r.2],[],[]⟩):=
 fn 51 Tryz.func244 (jn (.reg 1) [bx 2] (λG1 _ _=>{L:=[(17,.bool G1)],ks:=[1,2,3]}) (bs [] 11 (rt []) (rt [K 2 0])) (kA λ_=>br [] (rt []) (lp [] {} (λK1 _ _=>{L:=[(8,.int .i64 K1)],ks:=[1,2,3]}) (λx z b=>match x with|.inl G3=>{e:=.ret,L:=[(6,.int .i64 G3),(7,.bool true)]}|.inr G4=>{e:=.exit 0}) (λK1=>br [K 2 1] (jn (.reg 6) [] (λG2 _ _=>{L:=[(49,.bool G2)],ks:=[1,2,3,8]}) (ob (λ_ X2=>bh (.reg 6) [Ie 1 3 iy X2] (λB4=>ob (λ_ X4=>ob (λ_ X6=>nd (λO1=>rt [Ie 1 10 iy X4,Ie 0 17 iu X6,ch [] [(33,⟨cB B4⟩)],K 2 1,X 4,K 3 1,K 2 1,X 11,K 10 0,K 2 0,X 18,K 17 1,cat O1])))) (λB4=>rt [ch [] [(33,⟨cB B4⟩)],K 2 1,X 4,K 3 1,cd true,cd true,cd true,cd true,cd true,cd true,cd true]))) (kA λ_=>br [] (rt []) (nd (λO2=>rt [wr 24 O2])))) (rt [])) (kS (kA λ_=>rt []) (kA λ_=>rt [])))))
def vJ (n:Nat) (d0:ey) (d1:Int) (d2:Bs) (K1:Int):Option (Lp Int (Sum Int Unit)):=bif decide (K1<(d0.aV.length:Int)) then((aq d0.aV K1).bind λX1=>bif decide (X1.gf=d1) then(aq d0.aV K1).bind λX3=>(aq d0.aV d1).bind λX5=>ar (X5.cY.length+d2.length≤9223372036854775807)<|ar ((X5.cY++d2).length+ [46].length≤9223372036854775807)<|some (decide (X3.cY=((X5.cY++d2)++[46]))) else some (false):Option Bool).bind λG2=>bif G2 then some (.br (.inl K1)) else ar (inR .i64 (K1+1))<|some (.nx (K1+1)) else some (.br (.inr ()))
def iZ (n:Nat) (d0:ey) (d1:Int) (d2:Bs):Option (Int×Bool):=(bif decide (d1<0) then some (true) else some (decide ((d0.aV.length:Int)≤d1)):Option Bool).bind λG1=>bif G1 then some ((0:Int),(false)) else(av (vJ n d0 d1 d2) n (0:Int)).bind λQ2=>(match Q2 with|.inl G3=>some (G3,(true))|.inr G4=>some ((0:Int),(false)))
theorem xf (n:Nat) (d0:ey) (d1:Int) (d2:Bs) (z:Zs):oK (dt.facts d0 z) [] 210 [dt.ag d0 z,.int .i64 d1,S d2] (iZ n d0 d1 d2) (λr y=>⟨.tuple #[.int .i64 r.1,.bool r.2],[],[]⟩):=
 fn 52 Tryz.func210 (jn (.reg 1) [bx 2] (λG1 _ _=>{L:=[(17,.bool G1)],ks:=[1,2,3]}) (bs [] 11 (rt []) (rt [K 2 0])) (kA λ_=>br [] (rt []) (lp [] {} (λK1 _ _=>{L:=[(8,.int .i64 K1)],ks:=[1,2,3]}) (λx z b=>match x with|.inl G3=>{e:=.ret,L:=[(6,.int .i64 G3),(7,.bool true)]}|.inr G4=>{e:=.exit 0}) (λK1=>br [K 2 0] (jn (.reg 6) [] (λG2 _ _=>{L:=[(50,.bool G2)],ks:=[1,2,3,8]}) (ob (λ_ X2=>bh (.reg 6) [Ie 0 3 iu X2] (λB4=>ob (λ_ X4=>ob (λX5 X6=>nd (λO1=>nd (λO2=>rt [Ie 0 10 iu X4,Ie 0 17 iu X6,ch [] [(33,⟨cB B4⟩)],K 2 0,X 4,K 3 0,K 2 0,X 11,K 10 1,K 2 0,X 18,K 17 1,cat O1,cat (l:=X5.cY++d2) (m:=[46]) O2]))))) (λB4=>rt [ch [] [(33,⟨cB B4⟩)],K 2 0,X 4,K 3 0,cd true,cd true,cd true,cd true,cd true,cd true,cd true,cd true]))) (kA λ_=>br [] (rt []) (nd (λO3=>rt [wr 24 O3])))) (rt [])) (kS (kA λ_=>rt []) (kA λ_=>rt [])))))
variable {n:Nat}
theorem PsOK_of {l:CC} (h:zl l≤2000000):PsOK l:=⟨by have:=lU l;omega,λp hp=>by
 have h1:=dZ hp
 have hq:_∧_:=Sz.p p
 simp only[Sz.f,zz,zl] at*
 exact⟨by omega,by omega,by omega,λv hv=>by have:=Bl (List.mem_map_of_mem (f:=aw) hv);omega⟩⟩
theorem CsOK_of {l:Cw} (h:zl l≤2000000):CsOK l:=⟨by have:=lU l;omega,λp hp=>by
 have h1:=dZ hp
 simp only[Sz.f,zz,zl] at*
 omega⟩
theorem pa17 (hn:10000000000001<n): ∀ (k:Nat) (x:bZ),dsz (aN x)<k→dsz (aN x)≤2000000→Tot (gD n k x) λr=>0≤r∧r≤dsz (aN x)
 |0,x,h,_=>by omega
 |k+1,x,hk,hz=>by
  have hp:_∧_:=Sz.p x
  haveI: ∀y,Tt (gD n k y) (dsz (aN y)<k∧dsz (aN y)≤2000000) (λr=>0≤r∧r≤dsz (aN y)):=λy=>⟨λh=>pa17 hn k y h.1 h.2⟩
  unfold gD rS
  refine Tot.i (by omega) (Tot.i (by omega) (Tot.b (Tot.m (R:=λr=>0≤r∧r≤dsz (aN x)) (Tot.li (λs=>s.2) (λs=>s.2≤x.fL.length∧0≤s.1∧s.1≤1+x.be.length+x.aE.length+dszs ((x.fL.take s.2.toNat).map aN)) x.fL.length (by omega) (by simp[dszs];omega) λs h1 h2=>?_) λ_ h=>Tot.s h)))
  unfold vM
  refine Tot.cd (λh3=>?_) (λh3=>Tot.sb ?_)
  ·refine Tot.b (Tot.gt ⟨h1,h3⟩ λy hy ht=>?_)
   have:=dZ hy
   have:=ht aN
   have:=lA (xs:=x.fL) (s.2.toNat+1)
   have:=lA (xs:=x.fL) s.2.toNat
   simp only[Sz.f,zz,zl] at*
   have e: (s.2+1).toNat=s.2.toNat+1:=by omega
   exact Tot.cl (by omega) λw hw=>Tot.i (by omega) (Tot.i (by omega) (Tot.sn (by dsimp only;rw[e];omega)))
  have:s.2.toNat=x.fL.length:=by omega
  rw[this,List.take_length] at h2
  omega
instance {x:bZ}:Tt (qP n x) (10000000000001<n∧dsz (aN x)≤2000000) λr=>0≤r∧r≤2000000:=⟨λh=>(pa17 h.1 n x (by omega) h.2).m λ_ _=>by omega⟩
theorem we17 (hn:10000000000001<n): ∀ (k:Nat) (t:cI) (d:Int),dsz (ba t)<k→dsz (ba t)≤2000000→0≤d∧d≤1000→Tot (dx n k t d) λr=>0≤r∧r≤200000000+20000*d
 |0,t,d,h,_,_=>by omega
 |k+1,t,d,hk,hz,hd=>by
  have hp:_∧_:=Sz.p t
  haveI: ∀y e,Tt (dx n k y e) (dsz (ba y)<k∧dsz (ba y)≤2000000∧0≤e∧e≤1000) (λr=>0≤r∧r≤200000000+20000*e):=λy e=>⟨λh=>we17 hn k y e h.1 h.2.1 h.2.2⟩
  have l1:1≤d→∀w:Int,0≤w→w≤10000→Tot (av (nK n (dx n k) t d) n (w,(0:Int))) λb=>match b with|.inl r=>0≤r∧r≤200000000+20000*d|.inr r=>0≤r∧r≤10000:=λhd1 w hw hw'=>Tot.li (λs=>s.2) (λs=>0≤s.1∧s.1≤10000) t.eR.length (by omega) (by dsimp only;omega) λs h1 h2=>by
   unfold nK
   refine Tot.cd (λh3=>Tot.b (Tot.gx ⟨h1,h3⟩ λr _ _ hs hq=>?_)) λ_=>Tot.sb h2
   have hq:_∧_:=hq
   simp only[Sz.f,zz,zl] at hs
   refine Tot.b (Tot.m (R:=λb=>b=false→r.bk.length≤60∧r.cR.length≤60) (Tot.cd (λ_=>Tot.s (by simp)) λ_=>Tot.cd (λ_=>Tot.s (by simp)) λ_=>Tot.s (by simp;omega)) λb hb=>Tot.c (λ_=>Tot.sb (by simp;omega)) λh4=>?_)
   have:=hb h4
   haveI: ∀w,Tt (av (nL n r) n (w,(0:Int))) (0≤w∧w≤20001) λb=>match b with|.inl _=>True|.inr r=>0≤r∧r≤130000000:=λw=>⟨λhw=>Tot.li (λs=>s.2) (λs=>s.2≤60∧0≤s.1∧s.1≤20001+2010000*s.2) r.bk.length (by omega) (by dsimp only;omega) λs h1 h2=>by
    unfold nL
    refine Tot.cd (λh3=>Tot.b (Tot.gx ⟨h1,h3⟩ λp he _ hs hq=>?_)) λ_=>Tot.sb (by dsimp only;omega)
    have hq:_∧_:=hq
    simp only[Sz.f,zz,zl] at hs
    exact Tot.cl (by omega) λ_ _=>Tot.c (λ_=>Tot.sb trivial) λ_=>Tot.b (Tot.ge he (Tot.b (Tot.ge he (Tot.cl (by omega) λ_ _=>by exact tgo))))⟩
   haveI: ∀w,Tt (av (nM n r) n (w,(0:Int))) (0≤w∧w≤130000000) λr=>0≤r∧r≤131000000:=λw=>⟨λhw=>Tot.li (λs=>s.2) (λs=>s.2≤60∧0≤s.1∧s.1≤130000000+10000*s.2) r.cR.length (by omega) (by dsimp only;omega) λs h1 h2=>by
    unfold nM;exact tgo⟩
   haveI: ∀w,Tt (av (nN n (dx n k) d r) n (w,(0:Int))) (0≤w∧w≤131000000) λr=>0≤r∧r≤200000000+20000*d:=λw=>⟨λhw=>Tot.li (λs=>s.2) (λs=>0≤s.1∧s.1≤200000000+20000*d) r.cO.length (by omega) (by dsimp only;omega) λs h1 h2=>by
    unfold nN
    refine Tot.b (Tot.m (R:=λb=>b=true→s.2<r.cO.length∧s.1≤10000) (Tot.cd (λh3=>Tot.s (by simp;omega)) λ_=>Tot.s (by simp)) λb hb=>Tot.c (λh3=>?_) λ_=>Tot.sb h2)
    have:=hb h3
    exact tgo⟩
   refine Tot.i (by omega) (Tot.i (by omega) (Tot.i (by omega) (Tot.i (by omega) (Tot.cl (by omega) λb hb=>?_))))
   cases b with
   |inl _=>exact Tot.sb (by simp;omega)
   |inr y=>exact Tot.cl hb λ_ h=>Tot.cl h λz hz=>Tot.cd (λ_=>Tot.sb hz) λ_=>Tot.i (by omega) (Tot.sn (by dsimp only;omega))
  have l5: ∀w:Int,0≤w→w≤10000→t.bM.length≤60→Tot (av (nO n t) n (w,(0:Int))) λb=>match b with|.inl r=>True|.inr r=>0≤r∧r≤200000000+20000*d:=λw hw hw' ho=>Tot.li (λs=>s.2) (λs=>s.2≤60∧0≤s.1∧s.1≤10000+2010000*s.2) t.bM.length (by omega) (by dsimp only;omega) λs h1 h2=>by
   unfold nO
   refine Tot.cd (λh3=>Tot.b (Tot.gx ⟨h1,h3⟩ λp he _ hs hq=>?_)) λ_=>Tot.sb (by dsimp only;omega)
   have hq:_∧_:=hq
   simp only[Sz.f,zz,zl] at hs
   exact Tot.cl (by omega) λ_ _=>Tot.c (λ_=>Tot.sb trivial) λ_=>Tot.b (Tot.ge he (Tot.b (Tot.ge he (Tot.i (by omega) (Tot.b (Tot.ge he (Tot.cl (by omega) λ_ _=>by exact tgo)))))))
  unfold dx qf
  have hP:=PsOK_of (l:=t.bQ) (by simp only[zl,Sz.f];omega)
  have hC:=CsOK_of (l:=t.dL) (by simp only[zl,Sz.f];omega)
  refine Tot.b (Tot.m (R:=λb=>b=false→1≤d∧t.bQ.length≤60∧t.bM.length≤60) ?_ λb hb=>Tot.c (λ_=>Tot.s (by omega)) λh4=>?_)
  ·refine Tot.cd (λ_=>Tot.s (by simp)) λ_=>Tot.cd (λ_=>Tot.s (by simp)) λ_=>Tot.cd (λ_=>Tot.s (by simp)) λ_=>Tot.cd (λ_=>Tot.s (by simp)) λ_=>Tot.cd (λ_=>Tot.s (by simp)) λ_=>Tot.cl ⟨hn,hP⟩ λ_ _=>Tot.c (λ_=>Tot.s (by simp)) λ_=>Tot.cl ⟨hn,hC⟩ λ_ _=>Tot.s (by omega)
  have h5:=hb h4
  refine Tot.i (by omega) (Tot.b ((l1 h5.1 _ (by omega) (by omega)).m λb hb=>?_))
  cases b with
  |inl r=>exact Tot.s hb
  |inr r=>
   refine Tot.b ((l5 r hb.1 hb.2 h5.2.2).m λb hb=>?_)
   cases b with
   |inl _=>exact Tot.s (by omega)
   |inr r=>exact Tot.s hb
instance {t:cI} {gs:List aG}:Tt (qL n t gs) (10000000000001<n∧dsz (ba t)≤2000000∧GsOK gs) λ_=>True:=⟨λ ⟨hn,hz,hg⟩=>by
 haveI:Tt (tZ n t 8) True (λ_=>True):=⟨λ_=>(we17 hn n t 8 (by omega) hz (by omega)).m λ_ _=>trivial⟩
 unfold qL;exact tgo⟩
def Dp:Nat→cI→Prop|0,_=>True|k+1,t=>∀r∈t.eR,r.bB=[83,116,97,99,107]→∃u,aq r.cO 0=some u∧u∈r.cO∧Dp k u
theorem dp17 (hn:10000000000001<n): ∀ (k:Nat) (t:cI) (d:Int),dsz (ba t)<k→dsz (ba t)≤2000000→0≤d∧d≤1000→Tot (hZ n k t d) λb=>b=true→∀m,Dp m t
 |0,t,d,h,_,_=>by omega
 |k+1,t,d,hk,hz,hd=>by
  have hp:_∧_:=Sz.p t
  have l1:Tot (av (rR n (hZ n k) t d) n (0:Int)) λb=>match b with|.inl _=>True|.inr _=>∀r∈t.eR,r.bB=[83,116,97,99,107]→∃u,aq r.cO 0=some u∧u∈r.cO∧∀m,Dp m u:=by
   refine Tot.lm t.eR (λs=>s) (λr=>r.bB=[83,116,97,99,107]→∃u,aq r.cO 0=some u∧u∈r.cO∧∀m,Dp m u) (λ_=>True) (by omega) rfl trivial λs h1 _ hm=>?_
   unfold rR
   refine Tot.cd (λh3=>Tot.b (Tot.gm ⟨h1,h3⟩ λr hr ht=>?_)) λh3=>Tot.sb (cu h3 hm)
   have hs:=dZ hr
   have hq:_∧_:=Sz.p r
   simp only[Sz.f,zz,zl] at hs
   refine Tot.cn (Tot.cd (λh4=>Tot.cn (Tot.cd (λh5=>Tot.cd (λ_=>Tot.sb trivial) λh6=>?_) λ_=>Tot.sb trivial)) λh4=>Tot.cd (λ_=>Tot.sb trivial) λ_=>Tot.i (by omega) (Tot.sn ⟨h3,rfl,ht hm λe=>(h4 e).elim,trivial⟩))
   refine Tot.b (Tot.gx (by omega) λu hu hum hs' _=>?_)
   simp only[Sz.f,zz,zl] at hs'
   exact Tot.i (by omega) (Tot.b ((dp17 hn k u (d-1) (by omega) (by omega) (by omega)).m λb hb=>Tot.cn (Tot.c (λh=>Tot.i (by omega) (Tot.sn ⟨h3,rfl,ht hm λ_=>⟨u,hu,hum,hb h⟩,trivial⟩)) λ_=>Tot.sb trivial)))
  unfold hZ tR
  refine Tot.b (l1.m λb hb=>?_)
  cases b with
  |inl _=>exact Tot.s (by simp)
  |inr _=>exact Tot.s λ_ m=>match m with
   |0=>trivial
   |m+1=>λr hr h=>(hb r hr h).imp λ_ h=>⟨h.1,h.2.1,h.2.2 m⟩
theorem co17 (hn:10000000000001<n): ∀ (k:Nat) (t:cI),dsz (ba t)<k→dsz (ba t)≤2000000→Dp k t→Tot (gP n k t) λr=>0≤r.1∧0≤r.2∧r.1+r.2≤dsz (ba t)
 |0,t,h,_,_=>by omega
 |k+1,t,hk,hz,hD=>by
  have hp:_∧_:=Sz.p t
  unfold gP qe
  refine Tot.b (Tot.m (R:=λr=>0≤r.1∧0≤r.2∧r.1+r.2≤dsz (ba t)) (Tot.li (λs=>s.2.2) (λs=>s.2.2≤t.eR.length∧0≤s.1∧0≤s.2.1∧s.1+s.2.1≤1+dszs ((t.eR.take s.2.2.toNat).map cg)) t.eR.length (by omega) (by simp[dszs]) λs h1 h2=>?_) λ_ h=>Tot.s h)
  unfold uE
  refine Tot.cd (λh3=>?_) (λh3=>Tot.sb ?_)
  ·refine Tot.b (Tot.gy ⟨h1,h3⟩ λr he hr=>?_)
   have hs:=dZ hr
   have hq:_∧_:=Sz.p r
   have h5:=lA (xs:=t.eR) (s.2.2.toNat+1)
   have e: (s.2.2+1).toNat=s.2.2.toNat+1:=by omega
   simp only[Sz.f,zz,zl] at hs h5
   rw[tk1 he,List.map_append,gc] at h5
   simp only[List.map_cons,List.map_nil,dszs] at h5
   have e2:dszs ((t.eR.take (s.2.2+1).toNat).map cg)=dszs ((t.eR.take s.2.2.toNat).map cg)+ (dsz (cg r)):=by
    rw[e,tk1 he,List.map_append,gc]
    simp only[List.map_cons,List.map_nil,dszs];omega
   refine Tot.cd (λh4=>?_) λ_=>Tot.i (by omega) (Tot.i (by omega) (Tot.sn ⟨h3,by dsimp only;omega,by dsimp only;omega,by dsimp only;omega,by dsimp only;omega,by dsimp only;rw[e2];omega⟩))
   obtain⟨u,hu,hum,hDu⟩:=hD r hr h4
   have hs':=dZ hum
   simp only[Sz.f,zz,zl] at hs'
   exact Tot.b (Tot.ge he (Tot.b (Tot.ge hu (Tot.b ((co17 hn k u (by omega) (by omega) hDu).m λx hx=>Tot.i (by omega) (Tot.i (by omega) (Tot.i (by omega) (Tot.sn ⟨h3,by dsimp only;omega,by dsimp only;omega,by dsimp only;omega,by dsimp only;omega,by dsimp only;rw[e2];omega⟩))))))))
  have:s.2.2.toNat=t.eR.length:=by omega
  rw[this,List.take_length] at h2
  dsimp only;omega
def ScOK (s:cb):Prop:=zl s.fT.bQ≤2000000∧zl s.fT.dL≤2000000∧zl s.fT.bM≤2000000∧zl s.bG≤2000000∧s.cY.length≤4000000
def NdOK (B:Nat) (d:cj):Prop:=dsz (cg d.fR)≤2000000∧d.ci.length≤6000000∧d.iD.length≤2000000∧d.ju.length≤B
def NdO2 (d:cj):Prop:=NdOK 2000000 d∧∀a∈d.ju,a.length≤6000000
theorem getI_app {α:Type} {a b:List α} {i:Int} (h:i<a.length):aq (a++b) i=aq a i:=by
 unfold aq
 split
 ·rw[List.getElem?_append_left (by omega)]
 rfl
theorem put17 (hn : 10000000000001 < n) : ∀ (k : Nat) (t : cI) (d2 : Int) (sl : Ct) (nl : Cs) (d3 d4 : Cy), dsz (ba t) < k → dsz (ba t) ≤ 2000000 → Dp k t → 0 ≤ d2 ∧ d2 < sl.length → (∀ sc, aq sl d2 = some sc → sc.cY.length + dsz (ba t) ≤ 4000000) → d3.length + dsz (ba t) ≤ 2000000 → d4.length + dsz (ba t) ≤ 2000000 → (∀ g ∈ d4, (0 ≤ g.cK ∧ g.cK < sl.length) ∧ g.aE.length ≤ 2000000) → (∀ sc ∈ sl, ScOK sc) → sl.length + dsz (ba t) ≤ 10000000 → nl.length + dsz (ba t) ≤ 2000000 → (∀ nd ∈ nl, NdO2 nd) →
  Tot (dz n k sl nl t d2 d3 d4) fun r => (∃ a, r.1 = sl ++ a) ∧ r.1.length + 5 ≤ sl.length + dsz (ba t) ∧ r.2.length + 5 ≤ nl.length + dsz (ba t) ∧ (∀ sc ∈ r.1, ScOK sc) ∧ ∀ nd ∈ r.2, NdO2 nd
 | 0, t, _, _, _, _, _, h, _, _, _, _, _, _, _, _, _, _, _ => by omega
 | k + 1, t, d2, sl, nl, d3, d4, hk, hz, hD, hd2, hpre, h3, h4, hg, hs, hsl, hnl, hnd => by
  have hp : _ ∧ _ := Sz.p t
  unfold dz jy
  refine Tot.b (Tot.m (R := fun r => (∃ a, r.1 = sl ++ a) ∧ r.1.length + 5 ≤ sl.length + dsz (ba t) ∧ r.2.length + 5 ≤ nl.length + dsz (ba t) ∧ (∀ sc ∈ r.1, ScOK sc) ∧ ∀ nd ∈ r.2, NdO2 nd) (Tot.li (fun s => s.1) (fun s => s.1 ≤ t.eR.length ∧ (∃ a, s.2.1 = sl ++ a) ∧ s.2.1.length ≤ sl.length + dszs ((t.eR.take s.1.toNat).map cg) ∧ s.2.2.length ≤ nl.length + dszs ((t.eR.take s.1.toNat).map cg) ∧ (∀ sc ∈ s.2.1, ScOK sc) ∧ ∀ nd ∈ s.2.2, NdO2 nd) t.eR.length (by omega) ⟨by simp, by simp, ⟨[], by simp⟩, by simp [dszs], by simp [dszs], hs, hnd⟩ fun s h1 ⟨g1, ⟨a, ga⟩, g2, g3, g4, g5⟩ => ?_) fun _ h => Tot.s h)
  unfold mK
  refine Tot.cd (fun c1 => ?_) (fun c1 => Tot.sb ?_)
  ·refine Tot.b (Tot.gy ⟨h1, c1⟩ fun r he hr => ?_)
   have hzr := dZ hr
   have hq : _ ∧ _ := Sz.p r
   have h5 := lA (xs := t.eR) (s.1.toNat + 1)
   have e : (s.1 + 1).toNat = s.1.toNat + 1 := by omega
   simp only [Sz.f, zz, zl] at hzr h5
   rw [tk1 he, List.map_append, gc] at h5
   simp only [List.map_cons, List.map_nil, dszs] at h5
   have e2 : dszs ((t.eR.take (s.1 + 1).toNat).map cg) = dszs ((t.eR.take s.1.toNat).map cg) + (dsz (cg r)) := by
    rw [e, tk1 he, List.map_append, gc]
    simp only [List.map_cons, List.map_nil, dszs]; omega
   have hlen : sl.length ≤ s.2.1.length := by rw [ga]; simp
   obtain ⟨sc, hsc, hscm⟩ : ∃ sc, aq sl d2 = some sc ∧ sc ∈ sl := Tot.gy (Q := fun x => x ∈ sl) hd2 fun _ _ h => h
   have hpsc := hpre sc hsc
   have hsc' : aq s.2.1 d2 = some sc := by rw [ga, getI_app hd2.2, hsc]
   refine Tot.n (by simp; omega) (Tot.n (by simp; omega) (Tot.b (Tot.m (R := fun y => y.length ≤ d3.length + 1) (Tot.cn (Tot.cd (fun _ => Tot.s (by simp)) fun _ => Tot.n (by simp; omega) (Tot.s (by simp)))) fun y1 hy1 => Tot.b (Tot.m (R := fun y => y.length ≤ d4.length + r.cR.length ∧ ∀ g ∈ y, (0 ≤ g.cK ∧ g.cK < s.2.1.length) ∧ g.aE.length ≤ 2000000) ?_ fun y2 ⟨hy2, hy2g⟩ => Tot.b (Tot.ge hsc' (Tot.n (by omega) (Tot.cd (fun hst => ?_) fun _ => ?_)))))))
   ·refine Tot.li (fun s2 => s2.2) (fun s2 => s2.2 ≤ r.cR.length ∧ s2.1.length ≤ d4.length + s2.2 ∧ ∀ g ∈ s2.1, (0 ≤ g.cK ∧ g.cK < s.2.1.length) ∧ g.aE.length ≤ 2000000) r.cR.length (by omega) ⟨by simp, by simp, by simp, fun g h => by have := hg g (by simpa using h); omega⟩ fun s2 f1 ⟨f2, f3, f4⟩ => ?_
    unfold mM
    refine Tot.cd (fun f5 => Tot.b (Tot.gx ⟨f1, f5⟩ fun x _ _ hx hx' => Tot.n (by omega) (Tot.i (by omega) (Tot.sn ⟨f5, by dsimp only; omega, by dsimp only; omega, by simp; omega, fun g h => ?_⟩)))) fun _ => Tot.sb ⟨by omega, f4⟩
    simp only [Sz.f, zz, zl, Sz.P] at hx hx'
    rcases List.mem_append.1 h with h | h
    ·exact f4 g h
    rw [List.mem_singleton.1 h]; dsimp only; omega
   ·obtain ⟨u, hu, hum, hDu⟩ := hD r hr hst
    have hzu := dZ hum
    have hqu : _ ∧ _ := Sz.p u
    simp only [Sz.f, zz, zl] at hzu
    refine Tot.b (Tot.m (R := fun y => ∃ x, y = s.2.1 ++ [x] ∧ ScOK x ∧ x.cY.length + dsz (ba u) ≤ 4000000) (Tot.n (by simp; omega) (Tot.b (Tot.ge hu (Tot.b (Tot.s (Tot.n (by omega) (Tot.s ⟨_, rfl, ⟨by simp only [zl, Sz.f]; omega, by simp only [zl, Sz.f]; omega, by simp only [zl, Sz.f]; omega, by simp only [zl, Sz.f]; omega, by simp; omega⟩, by simp; omega⟩))))))) fun y ⟨x, hy, hx, hxp⟩ => ?_)
    subst hy
    refine Tot.b (Tot.ge hu (Tot.i (by simp; omega) (Tot.b ((put17 hn k u _ _ _ y1 y2 (by omega) (by omega) hDu (by simp; omega) (fun sc' h' => ?_) (by omega) (by omega) (fun g h => by have := hy2g g h; simp; omega) (fun sc h => ?_) (by simp; omega) (by omega) g5).m fun w ⟨⟨b, w1⟩, w2, w3, w4, w5⟩ => Tot.i (by omega) (Tot.sn ⟨c1, by dsimp only; omega, by dsimp only; omega, ⟨a ++ [x] ++ b, by rw [w1, ga]; simp⟩, by dsimp only; rw [e2]; rw [List.length_append, List.length_singleton] at w2; omega, by dsimp only; rw [e2]; omega, w4, w5⟩)))))
    ·have : aq (s.2.1 ++ [x]) (((s.2.1 ++ [x]).length : Int) - 1) = some x := by
      simp [aq]
     rw [this] at h'; injection h' with h'; subst h'; exact hxp
    rcases List.mem_append.1 h with h | h
    ·exact g4 sc h
    rw [List.mem_singleton.1 h]; exact hx
   refine Tot.b (Tot.m (R := fun y => y.length ≤ y2.length ∧ ∀ a ∈ y, a.length ≤ 6000000) (Tot.li (fun s3 => s3.1) (fun s3 => s3.1 ≤ y2.length ∧ s3.2.length ≤ s3.1 ∧ ∀ a ∈ s3.2, a.length ≤ 6000000) y2.length (by omega) (by simp) fun s3 f1 ⟨f2, f3, f6⟩ => ?_) fun y5 ⟨hy5, hy5a⟩ => Tot.b (Tot.m (R := fun y => ∃ x, y.2 = s.2.2 ++ [x] ∧ NdO2 x) (Tot.n (by omega) (Tot.s ⟨_, rfl, ⟨by dsimp only; omega, by simp; omega, by dsimp only; omega, by dsimp only; omega⟩, hy5a⟩)) fun y6 ⟨x, hx1, hx2⟩ => Tot.i (by omega) (Tot.sn ⟨c1, by dsimp only; omega, by dsimp only; omega, ⟨a, ga⟩, by dsimp only; rw [e2]; omega, by dsimp only; rw [hx1, e2, List.length_append, List.length_singleton]; omega, g4, fun nd h => ?_⟩)))
   ·unfold mN
    refine Tot.cd (fun f5 => ?_) fun _ => Tot.sb ⟨by omega, f6⟩
    refine Tot.b (Tot.m (R := fun y => y.length ≤ s3.2.length + 1 ∧ ∀ a ∈ y, a.length ≤ 6000000) (Tot.b (Tot.gy ⟨f1, f5⟩ fun g hge hgm => Tot.b (Tot.ge hge ?_))) fun y ⟨hy, hya⟩ => Tot.i (by omega) (Tot.sn ⟨f5, by dsimp only; omega, by dsimp only; omega, by dsimp only; omega, hya⟩))
    have := hy2g g hgm
    refine Tot.b (Tot.gy this.1 fun sc _ hm => ?_)
    obtain ⟨_, _, _, _, hl⟩ := g4 sc hm
    refine Tot.n (by omega) (Tot.n (by omega) (Tot.s ⟨by simp, fun a ha => ?_⟩))
    rcases List.mem_append.1 ha with ha | ha
    ·exact f6 a ha
    rw [List.mem_singleton.1 ha, List.length_append]; omega
   rw [hx1] at h
   rcases List.mem_append.1 h with h | h
   ·exact g5 nd h
   rw [List.mem_singleton.1 h]; exact hx2
  have : s.1.toNat = t.eR.length := by omega
  rw [this, List.take_length] at g2 g3
  exact ⟨⟨a, ga⟩, by dsimp only; omega, by dsimp only; omega, g4, g5⟩
variable {n:Nat}
def FlOK (f:ey):Prop:=f.aV.length≤2000000∧f.aU.length≤2000000∧(∀s∈f.aV,ScOK s)∧∀d∈f.aU,NdOK 6000000000000 d
instance {a b:Bs}:Tt (oB n a b) (b.length≤10000000000000) λ_=>True:=⟨λh=>by unfold oB;exact tgo⟩
theorem under17 {f:ey} {x:Bs} (hn:10000000000001<n) (hl:f.aU.length≤2000000) (hx:x.length≤10000000000000):Tot (qM n f x) λr=>r.length≤f.aU.length∧∀i∈r,0≤i∧i<f.aU.length:=by
 unfold qM
 refine Tot.b (Tot.m (R:=λr=>r.length≤f.aU.length∧∀i∈r,0≤i∧i<f.aU.length) (Tot.li (λs=>s.2) (λs=>s.2≤f.aU.length∧s.1.length≤s.2∧∀i∈s.1,0≤i∧i<f.aU.length) f.aU.length (by omega) (by simp) λs h1 ⟨h2,h3,h4⟩=>?_) λr h=>Tot.s h)
 unfold vL
 refine Tot.cd (λh5=>Tot.b (Tot.gy ⟨h1,h5⟩ λd _ _=>Tot.cl hx λb _=>Tot.c (λ_=>Tot.n (by omega) (Tot.i (by omega) (Tot.sn ⟨h5,by dsimp only;omega,by dsimp only;omega,by simp;omega,λi hi=>?_⟩))) λ_=>Tot.i (by omega) (Tot.sn ⟨h5,by dsimp only;omega,by dsimp only;omega,by dsimp only;omega,h4⟩))) λ_=>Tot.sb ⟨by omega,h4⟩
 rcases List.mem_append.1 hi with hi|hi
 ·exact h4 i hi
 rw[List.mem_singleton.1 hi];exact⟨h1,h5⟩
instance {f:ey} {x:Bs}:Tt (oE n f x) (10000000000001<n∧f.aU.length≤2000000) λ_=>True:=⟨λ ⟨hn,hl⟩=>by
 haveI:Tt (av (nJ n f x) n (0:Int)) True λ_=>True:=⟨λ_=>Tot.li (λs=>s) (λ_=>True) f.aU.length (by omega) (by simp) λs h1 _=>by unfold nJ;exact tgo⟩
 unfold oE;exact tgo⟩
instance {l:List Bs} {x:Bs}:Tt (wy n l x) (10000000000001<n∧l.length≤10000000000000) λ_=>True:=⟨λ ⟨hn,hl⟩=>by
 haveI:Tt (av (tV n l x) n (0:Int)) True λ_=>True:=⟨λ_=>Tot.li (λs=>s) (λ_=>True) l.length (by omega) (by simp) λs h1 _=>by unfold tV;exact tgo⟩
 unfold wy;exact tgo⟩
theorem zFlOK:FlOK gG:=by
 refine⟨by decide,by decide,λs h=>?_,λs h=>?_⟩
 ·have h:s∈ ([]:Ct):=h
  cases h
 have h:s∈ ([]:Cs):=h
 cases h
theorem flat17 {sl:Ct} {nl:Cs} (hn:10000000000001<n) (hl:nl.length≤2000000) (x5: ∀nd∈nl,NdO2 nd):Tot (av (lK n (sl,nl)) n ((0:Int),nl)) λl=>l.length≤2000000∧∀d∈l,NdOK 6000000000000 d:=by
 refine Tot.li (λs=>s.1) (λs=>s.1≤nl.length∧s.2.length=nl.length∧(∀j:Int,s.1≤j→aq s.2 j=aq nl j)∧∀d∈s.2,NdOK 6000000000000 d) nl.length (by omega) ⟨by simp,by simp,rfl,λj _=>rfl,λd hd=>?_⟩ λs h1 ⟨h2,h3,h4,h5⟩=>?_
 ·obtain⟨⟨a,b,c,d⟩,_⟩:=x5 d hd;exact⟨a,b,c,by omega⟩
 unfold lK
 refine Tot.cd (λh6=>Tot.b (Tot.gy ⟨h1,h6⟩ λd hd hm=>?_)) λh6=>Tot.sb ⟨by omega,h5⟩
 have hdm:d∈nl:=by
  rw[h4 s.1 (by omega)] at hd
  obtain⟨e1,e2,e3⟩:=cH hd
  exact List.mem_of_getElem? e3
 obtain⟨⟨q1,q2,q3,q4⟩,q5⟩:=x5 d hdm
 refine Tot.b (Tot.m (R:=λy=>y.length≤6000000000000) (Tot.li (λs2=>s2.2) (λs2=>s2.2≤d.ju.length∧s2.1.length≤2000001*s2.2) d.ju.length (by omega) (by simp) λs2 f1 ⟨f2,f3⟩=>?_) λy hy=>Tot.b (Tot.ge hd (Tot.i (by omega) (Tot.sn ⟨by omega,by dsimp only;omega,by dsimp only;omega,by simp[h3],λj hj=>?_,λd' hd'=>?_⟩))))
 ·unfold sG
  refine Tot.cd (λf4=>Tot.b (Tot.gy ⟨f1,f4⟩ λa hae ham=>Tot.b (Tot.ge hae ?_))) λ_=>Tot.sb (by omega)
  have hal:=q5 a ham
  refine Tot.b ((under17 hn (by dsimp only;omega) (by omega)).m λu ⟨hu1,hu2⟩=>Tot.b (Tot.ge hae (Tot.cl ⟨hn,by dsimp only;omega⟩ λ_ _=>Tot.b (Tot.m (R:=λy=>y.length≤1) (Tot.cn (Tot.c (λ_=>Tot.s (by simp)) λ_=>Tot.s (by simp))) λy2 hy2=>?_))))
  dsimp only at hu1 hu2
  refine Tot.b (Tot.m (R:=λy=>y.length≤2000001) (Tot.li (λs3=>s3.2) (λs3=>s3.2≤u.length∧s3.1.length≤1+s3.2) u.length (by omega) (by dsimp only;omega) λs3 e1 ⟨e2,e3⟩=>?_) λy3 hy3=>Tot.b (Tot.m (R:=λy=>y.length≤s2.1.length+y3.length) (Tot.li (λs4=>s4.2) (λs4=>s4.2≤y3.length∧s4.1.length≤s2.1.length+s4.2) y3.length (by omega) (by dsimp only;omega) λs4 e1 ⟨e2,e3⟩=>?_) λy4 hy4=>Tot.i (by omega) (Tot.sn ⟨f4,by dsimp only;omega,by dsimp only;omega,by dsimp only;omega⟩)))
  ·unfold sH
   exact Tot.cd (λe4=>Tot.b (Tot.gy ⟨e1,e4⟩ λi _ him=>Tot.b (Tot.gy (by have:=hu2 i him;omega) λ_ _ _=>Tot.n (by omega) (Tot.i (by omega) (Tot.sn ⟨e4,by dsimp only;omega,by dsimp only;omega,by simp;omega⟩))))) λ_=>Tot.sb (by omega)
  unfold sJ
  refine Tot.cd (λe4=>Tot.b (Tot.gy ⟨e1,e4⟩ λi hie him=>Tot.cl ⟨hn,by omega⟩ λ_ _=>Tot.cn (Tot.c (λ_=>?_) λ_=>Tot.b (Tot.ge hie ?_)))) λ_=>Tot.sb (by omega)
  ·exact Tot.i (by omega) (Tot.sn ⟨e4,by dsimp only;omega,by dsimp only;omega,by dsimp only;omega⟩)
  exact Tot.n (by omega) (Tot.i (by omega) (Tot.sn ⟨e4,by dsimp only;omega,by dsimp only;omega,by simp;omega⟩))
 ·dsimp only at hj ⊢
  rw[←h4 j (by omega)]
  simp only[aq]
  split
  ·rw[List.getElem?_set_ne (by omega)]
  rfl
 rcases List.mem_or_eq_of_mem_set hd' with hd'|hd'
 ·exact h5 d' hd'
 rw[hd'];exact⟨q1,q2,q3,hy⟩
instance {t:cI}:Tt (ml n t) (10000000000001<n∧dsz (ba t)≤2000000) λr=>FlOK r.1:=⟨λ ⟨hn,hz⟩=>by
 have hp:_∧_:=Sz.p t
 unfold ml
 refine Tot.b ((dp17 hn n t 2 (by omega) hz (by omega)).m λb hb=>Tot.cn (Tot.c (λh=>?_) λ_=>Tot.s zFlOK))
 refine Tot.b ((co17 hn n t (by omega) hz (hb h n)).m λc _=>Tot.b (Tot.m (R:=λ_=>True) tgo λ_ _=>Tot.c (λ_=>Tot.s zFlOK) λ_=>?_))
 refine Tot.b (Tot.s (Tot.b ((put17 hn n t 0 _ _ _ _ (by omega) hz (hb h n) (by simp) (λsc h=>?_) (by simp;omega) (by simp;omega) (by simp) (λsc h=>?_) (by simp;omega) (by simp;omega) (by simp)).m λx ⟨_,x2,x3,x4,x5⟩=>?_)))
 · simp[aq] at h;rw[←h];simp;omega
 · rw[List.mem_singleton.1 h]
   exact⟨by simp only[zl,Sz.f];omega,by simp only[zl,Sz.f];omega,by simp only[zl,Sz.f];omega,by simp[zl,dszs],by simp⟩
 · simp at x3 x2
   exact Tot.b ((flat17 hn (by omega) x5).m λl hl=>Tot.s ⟨by dsimp only;omega,hl.1,x4,hl.2⟩)⟩
instance {l:List cy} {x:Bs}:Tt (oD n l x) (10000000000001<n∧l.length≤10000000000000) λ_=>True:=⟨λ ⟨hn,hl⟩=>by
 haveI:Tt (av (nI n l x) n (0:Int)) True λ_=>True:=⟨λ_=>Tot.li (λs=>s) (λ_=>True) l.length (by omega) (by simp) λs h1 _=>by unfold nI;exact tgo⟩
 unfold oD;exact tgo⟩
def MyOK (f:ey):Prop:=0<f.aV.length∧(∀i:Int,1≤i→∀s,aq f.aV i=some s→0≤s.gf∧s.gf<i)∧∀d∈f.aU,0≤d.cK∧d.cK<f.aV.length
instance {f:ey}:Tt (wz n f) (10000000000001<n∧FlOK f) λb=>b=true→MyOK f:=⟨λ ⟨hn,h1,h2,h3,h4⟩=>by
 have l1:Tot (av (tW n f) n (1:Int)) λb=>match b with|.inl _=>True|.inr _=>∀i:Int,1≤i∧i<f.aV.length→∀s,aq f.aV i=some s→0≤s.gf∧s.gf<i:=by
  refine Tot.li (λs=>s) (λs=>1≤s∧∀i:Int,1≤i∧i<s→∀x,aq f.aV i=some x→0≤x.gf∧x.gf<i) f.aV.length (by omega) ⟨by simp,by simp,λi hi=>by omega⟩ λs g1 ⟨g2,g3⟩=>?_
  unfold tW
  refine Tot.cd (λg4=>Tot.b (Tot.gy ⟨g1,g4⟩ λx hx _=>Tot.cd (λ_=>Tot.sb trivial) λg5=>Tot.b (Tot.ge hx (Tot.cd (λ_=>Tot.sb trivial) λg6=>Tot.i (by omega) (Tot.sn ⟨g4,by omega,by omega,λi hi y hy=>?_⟩))))) λg4=>Tot.sb λi hi=>g3 i (by omega)
  by_cases e:i=s
  · subst e;rw[hx] at hy;injection hy with hy;subst hy;omega
  · exact g3 i (by omega) y hy
 have l2:Tot (av (tX n f) n (0:Int)) λb=>match b with|.inl _=>True|.inr _=>∀d∈f.aU,0≤d.cK∧d.cK<f.aV.length:=by
  refine Tot.lm f.aU (λs=>s) (λd=>0≤d.cK∧d.cK<f.aV.length) (λ_=>True) (by omega) rfl trivial λs g1 _ hm=>?_
  unfold tX
  refine Tot.cd (λg4=>Tot.b (Tot.gm ⟨g1,g4⟩ λd hd ht=>?_)) λg4=>Tot.sb (cu g4 hm)
  obtain⟨_,_,q3,_⟩:=h4 d hd
  refine Tot.b (Tot.m (R:=λb=>b=false→0≤d.cK∧d.cK<f.aV.length) (Tot.cd (λ_=>Tot.s (by simp)) λ_=>Tot.s (by simp;omega)) λb hb=>Tot.c (λ_=>Tot.sb trivial) λq=>?_)
  haveI:Tt (av (tY n f d) n (0:Int)) True λ_=>True:=⟨λ_=>Tot.li (λs=>s) (λ_=>True) d.iD.length (by omega) (by simp) λs f1 _=>by
   unfold tY
   refine Tot.cd (λf2=>Tot.b (Tot.gy ⟨f1,f2⟩ λg _ _=>Tot.cd (λ_=>Tot.sb trivial) λ_=>Tot.cd (λ_=>Tot.sb trivial) λ_=>Tot.b (Tot.gy (by omega) λsc _ hsc=>?_))) λ_=>Tot.sb trivial
   have:=(h3 sc hsc).2.1
   have:=lU sc.fT.dL
   exact Tot.cl ⟨hn,by omega⟩ λ_ _=>by exact tgo⟩
  refine Tot.cl trivial λb _=>?_
  cases b with
  |inl _=>exact Tot.sb trivial
  |inr _=>exact Tot.i (by omega) (Tot.sn ⟨g4,rfl,ht hm (hb q),trivial⟩)
 unfold wz
 refine Tot.b (Tot.m (R:=λb=>b=false→0<f.aV.length) (Tot.cd (λ_=>Tot.s (by simp)) λ_=>Tot.b (Tot.gy (by omega) λ_ _ _=>Tot.s (λ_=>by omega))) λb hb=>Tot.c (λ_=>Tot.s (by simp)) λq=>Tot.b (l1.m λb h5=>?_))
 cases b with
 |inl _=>exact Tot.s (by simp)
 |inr _=>
  refine Tot.b (l2.m λb h6=>?_)
  cases b with
  |inl _=>exact Tot.s (by simp)
  |inr _=>
   refine Tot.s λ_=>⟨hb q,λi hi s hs=>h5 i ⟨hi,?_⟩ s hs,h6⟩
   exact(cH hs).2.1⟩
def SmL (l:Cp):Prop:=BdOK l∧∀g∈l,dsz (aw g.fV)≤4000000
def SmG (l:Cp):Prop:=l.length≤1000000000∧∀g∈l,dsz (aw g.fV)≤4000000
theorem SmG.gs {l:Cp} (h:SmG l):GsOK l:=⟨h.1,λg hg=>by have:=h.2 g hg;omega⟩
theorem SmL.sm {l:Cp} (h:SmL l):SmG l:=⟨h.1.1,h.2⟩
theorem bind17 {s:cb} {gs:Cp} (hn:10000000000001<n) (hs:ScOK s) (hg:SmG gs):Tot (iQ n s.fT.bQ gs) λr=>SmL r.1:=by
 refine(Tt.t (x:=iQ n s.fT.bQ gs) ⟨hn,PsOK_of hs.1,hg.gs⟩).m λr ⟨h1,h2⟩=>⟨h1,λg hgm=>?_⟩
 rcases h2 g hgm with h|⟨p,hp,he⟩
 ·exact hg.2 g h
 have:=dZ hp
 have:=hs.1
 have hq:_∧_:=Sz.p p
 simp only[Sz.f,zz,zl] at*
 rw[he];omega
instance {f:ey} {gs:List aG}:Tt (kJ n f gs) (10000000000001<n∧FlOK f∧SmG gs) λr=>r.2=0→MyOK f∧r.1.length=f.aV.length∧∀l∈r.1,SmL l:=⟨λ ⟨hn,hf,hg⟩=>by
 have hf':=hf
 obtain⟨h1,h2,h3,h4⟩:=hf'
 unfold kJ
 refine Tot.cl ⟨hn,hf⟩ λb hb=>Tot.cn (Tot.c (λh=>?_) λ_=>Tot.s (by simp))
 have hm:=hb h
 have hm0:=hm.1
 refine Tot.b (Tot.gy (by omega) λs0 _ hs0=>Tot.b ((bind17 hn (h3 s0 hs0) hg).m λx hx=>Tot.cn (Tot.cd (λ_=>?_) λq=>Tot.s (λe=>(q e).elim))))
 refine Tot.b (Tot.m (R:=λb=>match b with|.inl _=>True|.inr r=>r.length=f.aV.length∧∀l∈r,SmL l) (Tot.li (λs=>s.2) (λs=>s.2≤f.aV.length∧1≤s.2∧s.1.length=s.2∧∀l∈s.1,SmL l) f.aV.length (by omega) ⟨by simp,by dsimp only;omega,by simp,by simp,λl hl=>by rw[List.mem_singleton.1 hl];exact hx⟩ λs g1 ⟨g2,g3,g4,g5⟩=>?_) λb hb=>?_)
 · unfold uC
   refine Tot.cd (λg6=>Tot.b (Tot.gy ⟨g1,g6⟩ λsc hsc hscm=>?_)) λg6=>Tot.sb ⟨by omega,g5⟩
   have hpar:=hm.2.1 s.2 g3 sc hsc
   have hsk:=h3 sc hscm
   have hal:=lU sc.bG
   have hal':=hsk.2.2.2.1
   refine Tot.b (Tot.m (R:=SmG) (Tot.li (λs2=>s2.2) (λs2=>s2.2≤sc.bG.length∧s2.1.length≤s2.2∧∀g∈s2.1,dsz (aw g.fV)≤4000000) sc.bG.length (by omega) (by simp) λs2 f1 ⟨f2,f3,f4⟩=>?_) λy hy=>Tot.b ((bind17 hn hsk hy).m λz hz=>Tot.cn (Tot.cd (λ_=>Tot.n (by omega) (Tot.i (by omega) (Tot.sn ⟨g6,by dsimp only;omega,by dsimp only;omega,by dsimp only;omega,by simp;omega,λl hl=>?_⟩))) λ_=>Tot.sb trivial)))
   · unfold uD
     refine Tot.cd (λf5=>Tot.b (Tot.gx ⟨f1,f5⟩ λa hae _ hz hq=>?_)) λ_=>Tot.sb ⟨by omega,f4⟩
     have hq:_∧_:=hq
     simp only[Sz.f,zz,zl] at hz hal hal'
     refine Tot.b (Tot.m (R:=λy=>dsz (aw y.1.fV)≤4000000) (Tot.b (Tot.ge hae (Tot.b (Tot.gy (by omega) λrow _ hrow=>?_)))) λy hy=>Tot.b (Tot.m (R:=λy=>dsz (aw y.fV)≤4000000) (Tot.cd (λ_=>Tot.s hy) λ_=>Tot.s (by have:=uo;dsimp only;omega)) λz hz=>Tot.n (by omega) (Tot.i (by omega) (Tot.sn ⟨f5,by dsimp only;omega,by dsimp only;omega,by simp;omega,λg hg=>?_⟩))))
     · have hr:=(g5 row hrow).sm
       exact Tot.b ((plain15 hn (B:=4000000) (by omega) (by omega) (by omega) hr.1 hr.2).m λr hr=>Tot.s hr)
     · rcases List.mem_append.1 hg with hg|hg
       · exact f4 g hg
       · rw[List.mem_singleton.1 hg];exact hz
   · rcases List.mem_append.1 hl with hl|hl
     · exact g5 l hl
     · rw[List.mem_singleton.1 hl];exact hz
 · cases b with
   |inl _=>exact Tot.s (by simp)
   |inr r=>exact Tot.s λ_=>⟨hm,hb⟩⟩
def CvOK (f:ey) (r:List Cp):Prop:=r.length=f.aV.length∧∀l∈r,l.length≤6
instance {f:ey} {gs:List aG}:Tt (dp n f gs) (10000000000001<n∧FlOK f∧SmG gs) λr=>r.2=0→MyOK f∧CvOK f r.1:=⟨λ ⟨hn,hf,hg⟩=>by
 have hf':=hf
 obtain⟨h1,h2,h3,h4⟩:=hf'
 unfold dp
 refine Tot.cl ⟨hn,hf,hg⟩ λx hx=>Tot.cn (Tot.cd (λh=>?_) λq=>Tot.s (λe=>(q e).elim))
 obtain⟨hm,hl,hr⟩:=hx h
 refine Tot.b (Tot.m (R:=λb=>match b with|.inl e=>e≠0|.inr r=>CvOK f r) (Tot.li (λs=>s.2) (λs=>s.2≤f.aV.length∧s.1.length=s.2∧∀l∈s.1,l.length≤6) f.aV.length (by omega) (by simp) λs g1 ⟨g2,g4,g5⟩=>?_) λb hb=>?_)
 · unfold vH
   refine Tot.cd (λg6=>Tot.b (Tot.gy ⟨g1,g6⟩ λsc hsc hscm=>Tot.b (Tot.gy (by omega) λrow _ hrow=>?_))) λg6=>Tot.sb ⟨by omega,g5⟩
   refine Tot.cl ⟨hn,CsOK_of (h3 sc hscm).2.1,(hr row hrow).sm.gs⟩ λy hy=>Tot.cn (Tot.cd (λ_=>Tot.n (by omega) (Tot.i (by omega) (Tot.sn ⟨g6,by dsimp only;omega,by dsimp only;omega,by simp;omega,λl hl=>?_⟩))) λq=>Tot.sb q)
   rcases List.mem_append.1 hl with hl|hl
   · exact g5 l hl
   · rw[List.mem_singleton.1 hl];exact hy
 · cases b with
   |inl e=>exact Tot.s (λh=>(hb h).elim)
   |inr r=>exact Tot.s λ_=>⟨hm,hb⟩⟩
instance {r:List (List aG)} {i:Int} {x:Bs}:Tt (gW n r i x) (10000000000001<n∧∀l∈r,l.length≤6) λ_=>True:=⟨λ ⟨hn,hr⟩=>by
 unfold gW
 refine Tot.cd (λ_=>Tot.s trivial) λ_=>Tot.b (Tot.m (R:=λb=>b=false→0≤i∧i<r.length) (Tot.cd (λ_=>Tot.s (by simp)) λ_=>Tot.s (by simp;omega)) λb hb=>Tot.c (λ_=>Tot.s trivial) λq=>?_)
 have hi:=hb q
 obtain⟨l,hl,hlm⟩: ∃l,aq r i=some l∧l∈r:=Tot.gy (Q:=λx=>x∈r) hi λ_ _ h=>h
 have h6:=hr l hlm
 refine Tot.b (Tot.m (R:=λ_=>True) (Tot.li (λs=>s) (λ_=>True) l.length (by omega) (by simp) λs h1 _=>?_) λb _=>by cases b<;>exact Tot.s trivial)
 unfold vI
 refine Tot.b (Tot.ge hl (Tot.cd (λh2=>Tot.b (Tot.ge hl (Tot.b (Tot.gy ⟨h1,h2⟩ λg hg _=>Tot.cd (λ_=>Tot.b (Tot.ge hl (Tot.b (Tot.ge hg (Tot.sb trivial))))) λ_=>Tot.i (by omega) (Tot.sn ⟨h2,by omega,trivial⟩))))) λ_=>Tot.sb trivial))⟩
theorem enabled17 {f:ey} {gs:Cp} (hn:10000000000001<n) (hf:FlOK f) (hg:SmG gs) {c:List Cp×Int} (hc:dp n f gs=some c) (h0:c.2=0):Tot (io n f gs) λr=>r.2=0∧r.1.length=f.aU.length:=by
 have hl: ∀l∈c.1,l.length≤6:=by
  obtain⟨c',e,h⟩:=Tt.t (x:=dp n f gs) ⟨hn,hf,hg⟩
  rw[hc] at e;injection e with e;subst e
  exact(h h0).2.2
 obtain⟨h1,h2,h3,h4⟩:=hf
 unfold io
 refine Tot.b (Tot.ge hc (Tot.cn (Tot.cd (λ_=>?_) λh=>(h h0).elim)))
 refine Tot.b (Tot.m (R:=λr=>r.length=f.aU.length) (Tot.li (λs=>s.2) (λs=>s.2≤f.aU.length∧s.1.length=s.2) f.aU.length (by omega) (by simp) λs g1 ⟨g2,g3⟩=>?_) λr hr=>Tot.s ⟨rfl,hr⟩)
 unfold sE
 refine Tot.cd (λg4=>?_) λ_=>Tot.sb (by omega)
 obtain⟨d,hd,hdm⟩: ∃l,aq f.aU s.2=some l∧l∈f.aU:=Tot.gy (Q:=λx=>x∈f.aU) ⟨g1,g4⟩ λ_ _ h=>h
 have hd3:=(h4 d hdm).2.2.1
 refine Tot.b (Tot.m (R:=λ_=>True) (Tot.li (λs=>s.2) (λ_=>True) d.iD.length (by omega) (by simp) λs2 f1 _=>?_) λ_ _=>Tot.n (by omega) (Tot.i (by omega) (Tot.sn ⟨g4,by dsimp only;omega,by dsimp only;omega,by simp;omega⟩)))
 unfold sF
 exact Tot.b (Tot.ge hd (Tot.cd (λf2=>Tot.b (Tot.ge hd (Tot.b (Tot.gy ⟨f1,f2⟩ λg _ _=>Tot.c (λ_=>Tot.cl ⟨hn,hl⟩ λ_ _=>by exact tgo) λ_=>by exact tgo)))) λ_=>Tot.sb trivial))
instance {f:ey} {i:Int} {x:Bs}:Tt (kb n f i x) (10000000000001<n∧FlOK f∧x.length≤10000000000000) λr=>r.2=true→0≤r.1∧r.1<f.aU.length:=⟨λ ⟨hn,⟨h1,h2,h3,h4⟩,hx⟩=>by
 unfold kb
 refine Tot.b (Tot.m (R:=λb=>b=false→0≤i∧i<f.aV.length) (Tot.cd (λ_=>Tot.s (by simp)) λ_=>Tot.s (by simp;omega)) λb hb=>Tot.c (λ_=>Tot.s (by simp)) λq=>?_)
 have hi:=hb q
 refine Tot.b (Tot.m (R:=λb=>match b with|.inl j=>0≤j∧j<f.aU.length|.inr _=>True) (Tot.li (λs=>s) (λ_=>True) f.aU.length (by omega) (by simp) λs g1 _=>?_) λb hb=>?_)
 · unfold xe
   refine Tot.cd (λg2=>Tot.b (Tot.m (R:=λ_=>True) (Tot.b (Tot.gy ⟨g1,g2⟩ λd hd _=>Tot.cd (λ_=>Tot.b (Tot.ge hd (Tot.b (Tot.gy hi λsc _ hsc=>?_)))) λ_=>Tot.s trivial)) λ_ _=>Tot.c (λ_=>Tot.sb ⟨g1,g2⟩) λ_=>Tot.i (by omega) (Tot.sn ⟨g2,by omega,trivial⟩))) λ_=>Tot.sb trivial
   have:=(h3 sc hsc).2.2.2.2
   exact Tot.n (by omega) (Tot.s trivial)
 · cases b with
   |inl j=>exact Tot.s λ_=>hb
   |inr _=>exact Tot.s (by simp)⟩
instance {f:ey} {i:Int} {x:Bs}:Tt (iZ n f i x) (10000000000001<n∧FlOK f∧x.length≤10000000000000) λr=>r.2=true→0≤r.1∧r.1<f.aV.length:=⟨λ ⟨hn,⟨h1,h2,h3,h4⟩,hx⟩=>by
 unfold iZ
 refine Tot.b (Tot.m (R:=λb=>b=false→0≤i∧i<f.aV.length) (Tot.cd (λ_=>Tot.s (by simp)) λ_=>Tot.s (by simp;omega)) λb hb=>Tot.c (λ_=>Tot.s (by simp)) λq=>?_)
 have hi:=hb q
 refine Tot.b (Tot.m (R:=λb=>match b with|.inl j=>0≤j∧j<f.aV.length|.inr _=>True) (Tot.li (λs=>s) (λ_=>True) f.aV.length (by omega) (by simp) λs g1 _=>?_) λb hb=>?_)
 · unfold vJ
   refine Tot.cd (λg2=>Tot.b (Tot.m (R:=λ_=>True) (Tot.b (Tot.gy ⟨g1,g2⟩ λd hd _=>Tot.cd (λ_=>Tot.b (Tot.ge hd (Tot.b (Tot.gy hi λsc _ hsc=>?_)))) λ_=>Tot.s trivial)) λ_ _=>Tot.c (λ_=>Tot.sb ⟨g1,g2⟩) λ_=>Tot.i (by omega) (Tot.sn ⟨g2,by omega,trivial⟩))) λ_=>Tot.sb trivial
   have:=(h3 sc hsc).2.2.2.2
   exact Tot.n (by omega) (Tot.n (by simp;omega) (Tot.s trivial))
 · cases b with
   |inl j=>exact Tot.s λ_=>hb
   |inr _=>exact Tot.s (by simp)⟩
end Go.Proofs.YtkmbfmdhoeibhaaGreat
