/-
  Texts of this claim, packed (what nothing names is left out): SynG9, R3, LD, SynL3, Vo2, Op. Own work, partly printed by own programs. No condition.
-/
import Derived.Test.YtkopljikappieaaGreatDoorPkL8
import Derived.Test.YtkopljikappieaaGreatDoorPkL4
import Derived.Test.YtkopljikappieaaGreatDoorPkL6
import Derived.Test.YtkopljikappieaaGreatDoorPkL2
import Derived.Test.YtkopljikappieaaGreatDoorPkL1
import Derived.Test.YtkopljikappieaaGreatDoorRows
set_option linter.unusedVariables false
set_option linter.unusedSimpArgs false
set_option maxHeartbeats 2000000
section
namespace Go.Proofs.YtkopljikappieaaGreatDoor
open Go Go.Vc Go.RowKit
def docCl (n:Nat) (rc2:R2T) (deep:Int) (at0:Bs):Nat→Cl2T
 |0=>λkey y p ts=>(bZ n 0 at0 key y p).bind λx=>aL ((ts.1.length+1)*128≤140737488355328) (some (x.2.1,x.2.2,ts.1++[x.1],ts.2))
 |1=>λkey y p ts=>(bK n 0 at0 key y p).bind λx=>aL ((ts.2.1.length+1)*224≤140737488355328) (some (x.2.1,x.2.2,ts.1,ts.2.1++[x.1],ts.2.2))
 |2=>λkey y p ts=>(bm n rc2 0 at0 key y p deep).bind λx=>aL ((ts.2.2.1.length+1)*128≤140737488355328) (some (x.2.1,x.2.2,ts.1,ts.2.1,ts.2.2.1++[x.1],ts.2.2.2))
 |_=>λkey y p ts=>(bX n 0 at0 key y p).bind λx=>aL ((ts.2.2.2.length+1)*120≤140737488355328) (some (x.2.1,x.2.2,ts.1,ts.2.1,ts.2.2.1,ts.2.2.2++[x.1]))
theorem mO {α β γ:Type} {p:Prop} [Decidable p] {x:α} {y:γ} {f:α→Option β} {g:γ→Option β} (h:f x=g y): (aL p (some x)).bind f=(aL p (some y)).bind g:=by
 unfold aL
 split
 ·exact h
 rfl
theorem pD {n e:Nat} (hn:100000≤n) {rc2:R2T} {deep:Int} {at0:Bs} {x3:TE0×Bool} {q:Bs} (h:At e x3.1 q) (h5:x3.1.ab=5) (i:Nat) (hi:i<4) (ts0:TS):
 DocStep n x3.1 q at0 (aS n rc2 deep (stT (i:Nat) 0 at0 ts0) x3 q (keysV x3.1)) (docCl n rc2 deep at0 i):=by
 have hle:=h.le
 refine⟨λk e a ts he=>?_,λts=>?_,λk hk ts hb=>?_,λk hk ts hb=>?_⟩
 ·unfold aS
  dsimp only
  rw[dF he]
  cases decide (k<(((keysV x3.1).length:Nat):Int))<;>rfl
 ·have hlt:decide ((((keysV x3.1).length:Nat):Int)<(((keysV x3.1).length:Nat):Int))=false:=dF (by omega)
  unfold aS
  dsimp only
  rw[hlt,cF,bnd,cF]
  rfl
 ·have hg:aB (keysV x3.1) (k:Int)=some (keysV x3.1)[k]:=by simp[aB]
  have hkl:=mN h (List.getElem_mem hk)
  have hlt:decide ((k:Int)<(((keysV x3.1).length:Nat):Int))=true:=dT (by omega)
  unfold aS
  dsimp only
  rw[hlt,cT,dT rfl,bnd,cT,hg,bnd,hU (by omega) h.wide,bnd,bnd,bnd,dw (by omega) (by omega),bnd,bnd,kQ (by omega) (by omega),bnd,hb,nF,cT,bP,bnd]
  rfl
 have hg:aB (keysV x3.1) (k:Int)=some (keysV x3.1)[k]:=by simp[aB]
 have hkl:=mN h (List.getElem_mem hk)
 have hlt:decide ((k:Int)<(((keysV x3.1).length:Nat):Int))=true:=dT (by omega)
 unfold aS
 dsimp only
 rw[hlt,cT,dT rfl,bnd,cT,hg,bnd,hU (by omega) h.wide,bnd,bnd,bnd,dw (by omega) (by omega),bnd,bnd,kQ (by omega) (by omega),bnd,hb,nT,cF]
 generalize (keysV x3.1)[k]=key
 generalize (getV x3.1 key).1=y
 match i,hi with
 |0,_=>
  show((((some key).bind λx_19=>(bZ n 0 at0 x_19 y (undS q key)).bind _)).bind _)=((bZ n 0 at0 key y (undS q key)).bind _).bind _
  rw[bnd]
  cases bZ n 0 at0 key y (undS q key) with
  |none=>rfl
  |some x=>exact mO rfl
 |1,_=>
  show((((some key).bind λx_19=>(bK n 0 at0 x_19 y (undS q key)).bind _)).bind _)=((bK n 0 at0 key y (undS q key)).bind _).bind _
  rw[bnd]
  cases bK n 0 at0 key y (undS q key) with
  |none=>rfl
  |some x=>exact mO rfl
 |2,_=>
  show((((some key).bind λx_19=>(bm n rc2 0 at0 x_19 y (undS q key) deep).bind _)).bind _)=((bm n rc2 0 at0 key y (undS q key) deep).bind _).bind _
  rw[bnd]
  cases bm n rc2 0 at0 key y (undS q key) deep with
  |none=>rfl
  |some x=>exact mO rfl
 |3,_=>
  show((((some key).bind λx_19=>(bX n 0 at0 x_19 y (undS q key)).bind _)).bind _)=((bX n 0 at0 key y (undS q key)).bind _).bind _
  rw[bnd]
  cases bX n 0 at0 key y (undS q key) with
  |none=>rfl
  |some x=>exact mO rfl
theorem ot {n:Nat} {rc2:R2T} {deep:Int} {at0:Bs} {x3:TE0×Bool} {q:Bs} {i:Nat} {ts0:TS} (k:Int) (ts:TS):
 aS n rc2 deep (stT (i:Nat) 0 at0 ts0) x3 q (keysV x3.1) (k,3,q,[],[],[],[],ts)=some (.br (.inr (endB 3 q ts))):=by
 unfold aS
 dsimp only
 rw[dF (by decide: ¬ (3:Int)=0)]
 cases decide (k<(((keysV x3.1).length:Nat):Int))<;>rfl
def GT:Nat→TB0→Prop
 |0,_=>False
 |k+1,t=>(t.ca.length≤10∧∀x∈t.ca,GPa x)∧(t.cD.length≤10∧∀x∈t.cD,GC 31 x)∧(t.iI.length≤10∧∀x∈t.iI,GRs (GT k) x)∧t.ee.length≤10∧∀x∈t.ee,GX 31 x.fE
def I1 (k:Nat) (ts:TS):Prop:=ts.1.length=k∧(∀x∈ts.1,GPa x)∧ts.2=([],[],[])
def I2 (pa:List TD0) (k:Nat) (ts:TS):Prop:=ts.1=pa∧ts.2.1.length=k∧(∀x∈ts.2.1,GC 31 x)∧ts.2.2=([],[])
def I3 (G:TB0→Prop) (pa:List TD0) (cs:List TH0) (k:Nat) (ts:TS):Prop:=ts.1=pa∧ts.2.1=cs∧ts.2.2.1.length=k∧(∀x∈ts.2.2.1,GRs G x)∧ts.2.2.2=[]
def I4 (pa:List TD0) (cs:List TH0) (rs:List TA0) (k:Nat) (ts:TS):Prop:=ts.1=pa∧ts.2.1=cs∧ts.2.2.1=rs∧ts.2.2.2.length=k∧∀x∈ts.2.2.2,GX 31 x.fE
theorem pw {α:Type} {P:α→Prop} {l:List α} {x:α} (h: ∀y∈l,P y) (hx:P x): ∀y∈l++[x],P y:=λy hy=>by
 rcases List.mem_append.1 hy with hy|hy
 ·exact h y hy
 obtain rfl:=List.mem_singleton.1 hy
 exact hx
theorem pI {α:Type} {l:List α} {x:α} {k:Nat} (h:l.length=k): (l++[x]).length=k+1:=by simp[h]
section
variable {n d:Nat} {rc1:R1T} {rc2:R2T} {deep:Int} {at0:Bs} {k:Nat} {ts:TS} {key:Bs} {y:TE0} {q:Bs} {e:Nat}
theorem cl1_both (hn:100000≤n) (hk:k<10) (hI:I1 k ts) (h:At e y q):AgrS at0 (dk n key y q ts.1 ts.2.1 ts.2.2.1 ts.2.2.2) (docCl n rc2 deep at0 0 key y q ts) (I1 (k+1)):=by
 obtain⟨h1,h2,h3⟩:=hI
 obtain⟨r,hr,hd,hq⟩:=param_both hn h key at0
 unfold dk
 show AgrS at0 _ ((bZ n 0 at0 key y q).bind _) _
 rw[hr,bnd,aP (by omega)]
 cases r with
 |inl p=>
  obtain⟨hp,j,hj⟩:=hd
  rw[hj]
  repeat rw[bnd]
  rw[aP (by omega)]
  exact⟨_,rfl,hp,_,rfl⟩
 |inr x=>
  have hj:bZ n 0 at0 key y q=some (x,0,at0):=hd
  rw[hj]
  repeat rw[bnd]
  rw[aP (by omega)]
  exact⟨_,rfl,rfl,pI h1,pw h2 (hq x rfl),h3⟩
theorem cl2_both (hn:100000≤n) {pa:List TD0} (hk:k<10) (hI:I2 pa k ts) (h:At e y q):AgrS at0 (dl n key y q ts.1 ts.2.1 ts.2.2.1 ts.2.2.2) (docCl n rc2 deep at0 1 key y q ts) (I2 pa (k+1)):=by
 obtain⟨h1,h2,h3,h4⟩:=hI
 obtain⟨r,hr,hd,hq⟩:=defined_both hn h key at0
 have hg:aB (ts.2.1++[(⟨([]:Bs),(0:Int),aQ,aQ,([]:List TH0)⟩:TH0)]) ((ts.2.1.length:Nat):Int)=some ⟨[],0,aQ,aQ,[]⟩:=by simp[aB]
 unfold dl
 show AgrS at0 _ ((bK n 0 at0 key y q).bind _) _
 rw[hr,bnd,aP (by omega),hg,bnd]
 cases r with
 |inl p=>
  obtain⟨hp,j,hj⟩:=hd
  rw[hj]
  repeat rw[bnd]
  rw[aP (by omega)]
  exact⟨_,rfl,hp,_,rfl⟩
 |inr x=>
  have hj:bK n 0 at0 key y q=some (x,0,at0):=hd
  rw[hj]
  repeat rw[bnd]
  rw[aP (by omega)]
  dsimp only
  rw[Int.toNat_natCast,List.set_append_right _ _ (Nat.le_refl _),Nat.sub_self,List.set_cons_zero]
  exact⟨_,rfl,rfl,h1,pI h2,pw h3 (hq x rfl),h4⟩
theorem cl3_both (hn:100000≤n) (h0:0≤deep) (h9:deep≤9) {G:TB0→Prop} {pa:List TD0} {cs:List TH0} (hk:k<10) (hI:I3 G pa cs k ts) (h:At e y q)
 (hrc:deep<2→∀e' y q,e'<e→At e' y q→∀at0,Agr at0 (rc1 y q (deep+1)) (rc2 0 at0 y q (deep+1)) G):AgrS at0 (cK n rc1 key y q ts.1 ts.2.1 ts.2.2.1 ts.2.2.2 deep) (docCl n rc2 deep at0 2 key y q ts) (I3 G pa cs (k+1)):=by
 obtain⟨h1,h2,h3,h4,h5⟩:=hI
 obtain⟨r,hr,hd,hq⟩:=sZ hn h0 h9 h hrc key at0
 unfold cK
 show AgrS at0 _ ((bm n rc2 0 at0 key y q deep).bind _) _
 rw[hr,bnd,aP (by omega)]
 cases r with
 |inl p=>
  obtain⟨hp,j,hj⟩:=hd
  rw[hj]
  repeat rw[bnd]
  rw[aP (by omega)]
  exact⟨_,rfl,hp,_,rfl⟩
 |inr x=>
  have hj:bm n rc2 0 at0 key y q deep=some (x,0,at0):=hd
  rw[hj]
  repeat rw[bnd]
  rw[aP (by omega)]
  exact⟨_,rfl,rfl,h1,h2,pI h3,pw h4 (hq x rfl),h5⟩
theorem cl4_both (hn:100000≤n) {pa:List TD0} {cs:List TH0} {rs:List TA0} (hk:k<10) (hI:I4 pa cs rs k ts) (h:At e y q):AgrS at0 (dm n key y q ts.1 ts.2.1 ts.2.2.1 ts.2.2.2) (docCl n rc2 deep at0 3 key y q ts) (I4 pa cs rs (k+1)):=by
 obtain⟨h1,h2,h3,h4,h5⟩:=hI
 obtain⟨r,hr,hd,hq⟩:=output_both hn h key at0
 unfold dm
 show AgrS at0 _ ((bX n 0 at0 key y q).bind _) _
 rw[hr,bnd,aP (by omega)]
 cases r with
 |inl p=>
  obtain⟨hp,j,hj⟩:=hd
  rw[hj]
  repeat rw[bnd]
  rw[aP (by omega)]
  exact⟨_,rfl,hp,_,rfl⟩
 |inr x=>
  have hj:bX n 0 at0 key y q=some (x,0,at0):=hd
  rw[hj]
  repeat rw[bnd]
  rw[aP (by omega)]
  exact⟨_,rfl,rfl,h1,h2,h3,pI h4,pw h5 (hq x rfl)⟩
end
theorem pM {σ β:Type} {step:σ→Option (Lp σ β)} {q:Nat} {s s':σ} (h:step s=some (.nx s')):au step (q+1) s=au step q s':=by rw[au,h,bnd]
theorem loop_br {σ β:Type} {step:σ→Option (Lp σ β)} {q:Nat} {s:σ} {b:β} (h:step s=some (.br b)):au step (q+1) s=some b:=by rw[au,h,bnd]
theorem tm_flt {n d:Nat} (hn:100000≤n) {rc2:R2T} {deep:Int} {v:TE0} {p at0:Bs} (h:At d v p) {i:Nat} (hi:i<4) {ts0:TS} {x:Int×Bs} (hx:x.1≠0) {ts:TS}
 (hp:aJ n rc2 v p deep (stT (i:Nat) 0 at0 ts0)=some (.br (.inl (endI x.1 x.2 ts)))∨aJ n rc2 v p deep (stT (i:Nat) 0 at0 ts0)=some (.nx (stT ((i+1:Nat):Int) x.1 x.2 ts))) (q:Nat) (hq:4<q):
 ∃c,au (aJ n rc2 v p deep) (q+1) (stT (i:Nat) 0 at0 ts0)=some c∧(c=.inl (endI x.1 x.2 ts)∨c=.inr (endB x.1 x.2 ts)):=by
 rcases hp with hp|hp
 ·exact⟨_,loop_br hp,.inl rfl⟩
 rw[pM hp]
 exact⟨_,tm_skip hn h hx ts (3-i) (i+1) (by omega) q (by omega),.inr rfl⟩
theorem oK {n:Nat} (hn:100000≤n): ∀ (k:Nat) (deep:Int) (d:Nat) (v:TE0) (p at0:Bs),0≤deep→deep≤2→2-deep<(k:Int)→At d v p→Agr at0 (cn n k v p deep) (aG n k 0 at0 v p deep) (GT k)
 |0,deep,d,v,p,at0,h0,h2,hk,_=>absurd hk (by omega)
 |k+1,deep,d,v,p,at0,h0,h2,hk,h=>by
  show Agr at0 (gJ n (cn n k) v p deep) (dB n (aG n k) 0 at0 v p deep) _
  unfold gJ dB
  refine Agr.fields hn h (by simp) (λq=>rfl) (λe a=>Kp.mk) (λh5 _=>?_)
  dsimp only
  rw[nT,cF,sec1_eq]
  obtain⟨m,hm⟩: ∃m,n=m+5:=⟨n-5,by omega⟩
  have hL: ∀q:Nat,q=n→au (aJ n (aG n k) v p deep) n (secsK,mostK,(0:Int),0,at0,[],[],[],[],[],[],[],[])=au (aJ n (aG n k) v p deep) q (stT ((0:Nat):Int) 0 at0 ([],[],[],[])):=λq hq=>by rw[hq];rfl
  have hL0:=hL (m+5) hm.symm
  have flt: ∀ {b:Option (Sum B2 B2)} {x:Int×Bs} {ts:TS},x.1≠0→(∃c,b=some c∧(c=.inl (endI x.1 x.2 ts)∨c=.inr (endB x.1 x.2 ts)))→
   Agr at0 (some (.inl x)) (b.bind λb_7=>match b_7 with
    |.inl y_11=>some (((⟨y_11.2.2.2.2.2.2.1,y_11.2.2.2.2.2.2.2.1,y_11.2.2.2.2.2.2.2.2.1,y_11.2.2.2.2.2.2.2.2.2⟩:TB0),y_11.1,y_11.2.1))
    |.inr y_12=>some (((⟨y_12.2.2.1,y_12.2.2.2.1,y_12.2.2.2.2.1,y_12.2.2.2.2.2.1⟩:TB0),y_12.1,y_12.2.1))) (GT (k+1)):=by
   rintro _ x ts hx ⟨c,rfl,hc⟩
   rw[bnd]
   rcases hc with rfl|rfl
   ·exact Agr.kp hx Kp.mk
   exact Agr.kp hx Kp.mk
  obtain⟨r1,o1,p1⟩:=qb hn h (rc2:=aG n k) (deep:=deep) (at0:=at0) (cl:=λk y q ts=>dk n k y q ts.1 ts.2.1 ts.2.2.1 ts.2.2.2) (cl2:=docCl n (aG n k) deep at0 0) 0 (by omega) I1 (ts0:=([],[],[],[])) ⟨rfl,(λx hx=>by cases hx),rfl⟩
   (λx3 q e hat h5=>pD hn hat h5 0 (by omega) _) (λx3 q e k ts hat=>ot k ts) (λk ts key y q e hk hI he hat=>cl1_both hn hk hI hat)
  have o1':secS n (λk y q ts=>dk n k y q ts.1 ts.2.1 ts.2.2.1 ts.2.2.2) [80,97,114,97,109,101,116,101,114,115] 6 ([],[],[],[]) v p=some r1:=o1
  rw[o1',bnd]
  cases r1 with
  |inl x=>
   obtain⟨hx,ts,hp⟩:=p1
   exact flt hx (by rw[show au _ n _=_ from hL0];exact tm_flt hn h (by omega) hx hp (m+4) (by omega))
  |inr ts1=>
   obtain⟨hp1,k1,hk1,i1⟩:=p1
   have hL1:=hL0.trans (pM hp1)
   obtain⟨pa,ts1b⟩:=ts1
   obtain⟨j1,j2,j3⟩:=i1
   have j3':ts1b=([],[],[]):=j3
   subst j3'
   dsimp only
   rw[sec2_eq]
   obtain⟨r2,o2,p2⟩:=qb hn h (rc2:=aG n k) (deep:=deep) (at0:=at0) (cl:=λk y q ts=>dl n k y q ts.1 ts.2.1 ts.2.2.1 ts.2.2.2) (cl2:=docCl n (aG n k) deep at0 1) 1 (by omega) (I2 pa) (ts0:=(pa,[],[],[])) ⟨rfl,rfl,(λx hx=>by cases hx),rfl⟩
    (λx3 q e hat h5=>pD hn hat h5 1 (by omega) _) (λx3 q e k ts hat=>ot k ts) (λk ts key y q e hk hI he hat=>cl2_both hn hk hI hat)
   have o2':secS n (λk y q ts=>dl n k y q ts.1 ts.2.1 ts.2.2.1 ts.2.2.2) [67,111,110,100,105,116,105,111,110,115] 6 (pa,[],[],[]) v p=some r2:=o2
   rw[o2',bnd]
   cases r2 with
   |inl x=>
    obtain⟨hx,ts,hp⟩:=p2
    exact flt hx (by rw[show au _ n _=_ from hL1];exact tm_flt hn h (by omega) hx hp (m+3) (by omega))
   |inr ts2=>
    obtain⟨hp2,k2,hk2,i2⟩:=p2
    have hL2:=hL1.trans (pM hp2)
    obtain⟨pa',cs,ts2b⟩:=ts2
    obtain⟨a1,a2,a3,a4⟩:=i2
    have a1':pa'=pa:=a1
    have a4':ts2b=([],[]):=a4
    subst a1' a4'
    dsimp only
    rw[sec3_eq]
    have hrc:deep<2→∀e' y q,At e' y q→∀at0,Agr at0 (cn n k y q (deep+1)) (aG n k 0 at0 y q (deep+1)) (GT k):=λhd e' y q hat at0=>oK hn k (deep+1) e' y q at0 (by omega) (by omega) (by omega) hat
    obtain⟨r3,o3,p3⟩:=qb hn h (rc2:=aG n k) (deep:=deep) (at0:=at0) (cl:=λk' y q ts=>cK n (cn n k) k' y q ts.1 ts.2.1 ts.2.2.1 ts.2.2.2 deep) (cl2:=docCl n (aG n k) deep at0 2) 2 (by omega) (I3 (GT k) pa' cs) (ts0:=(pa',cs,[],[])) ⟨rfl,rfl,rfl,(λx hx=>by cases hx),rfl⟩
     (λx3 q e hat h5=>pD hn hat h5 2 (by omega) _) (λx3 q e k ts hat=>ot k ts) (λk' ts key y q e hk hI he hat=>cl3_both hn h0 (by omega) hk hI hat (λhd e' y q _ hat at0=>hrc hd e' y q hat at0))
    have o3':secS n (λk' y q ts=>cK n (cn n k) k' y q ts.1 ts.2.1 ts.2.2.1 ts.2.2.2 deep) [82,101,115,111,117,114,99,101,115] 8 (pa',cs,[],[]) v p=some r3:=o3
    rw[o3',bnd]
    cases r3 with
    |inl x=>
     obtain⟨hx,ts,hp⟩:=p3
     exact flt hx (by rw[show au _ n _=_ from hL2];exact tm_flt hn h (by omega) hx hp (m+2) (by omega))
    |inr ts3=>
     obtain⟨hp3,k3,hk3,i3⟩:=p3
     have hL3:=hL2.trans (pM hp3)
     obtain⟨pa2,cs2,rs,ts3b⟩:=ts3
     obtain⟨b1,b2,b3,b4,b5⟩:=i3
     have b1':pa2=pa':=b1
     have b2':cs2=cs:=b2
     have b5':ts3b=[]:=b5
     subst b1' b2' b5'
     dsimp only
     rw[sec4_eq]
     obtain⟨r4,o4,p4⟩:=qb hn h (rc2:=aG n k) (deep:=deep) (at0:=at0) (cl:=λk y q ts=>dm n k y q ts.1 ts.2.1 ts.2.2.1 ts.2.2.2) (cl2:=docCl n (aG n k) deep at0 3) 3 (by omega) (I4 pa2 cs2 rs) (ts0:=(pa2,cs2,rs,[])) ⟨rfl,rfl,rfl,rfl,(λx hx=>by cases hx)⟩
      (λx3 q e hat h5=>pD hn hat h5 3 (by omega) _) (λx3 q e k ts hat=>ot k ts) (λk ts key y q e hk hI he hat=>cl4_both hn hk hI hat)
     have o4':secS n (λk y q ts=>dm n k y q ts.1 ts.2.1 ts.2.2.1 ts.2.2.2) [79,117,116,112,117,116,115] 6 (pa2,cs2,rs,[]) v p=some r4:=o4
     rw[o4',bnd]
     cases r4 with
     |inl x=>
      obtain⟨hx,ts,hp⟩:=p4
      obtain⟨m,rfl⟩: ∃r,m=r+5:=⟨m-5,by omega⟩
      exact flt hx (by rw[show au _ n _=_ from hL3];exact tm_flt hn h (by omega) hx hp (m+6) (by omega))
     |inr ts4=>
      obtain⟨hp4,k4,hk4,i4⟩:=p4
      have hL4:=hL3.trans (pM hp4)
      obtain⟨pa3,cs3,rs3,os⟩:=ts4
      obtain⟨c1,c2,c3,c4,c5⟩:=i4
      have c1':pa3=pa2:=c1
      have c2':cs3=cs2:=c2
      have c3':rs3=rs:=c3
      subst c1' c2' c3'
      have hend:aJ n (aG n k) v p deep (stT ((3+1:Nat):Int) 0 at0 (pa3,cs3,rs3,os))=some (.br (.inr (endB 0 at0 (pa3,cs3,rs3,os)))):=rfl
      have hL5:=hL4.trans (loop_br hend)
      rw[show au _ n _=_ from hL5,bnd]
      have j1':pa3.length=k1:=j1
      have a2':cs3.length=k2:=a2
      have b3':rs3.length=k3:=b3
      have c4':os.length=k4:=c4
      exact Agr.inr ⟨⟨by show pa3.length≤10;omega,j2⟩,⟨by show cs3.length≤10;omega,a3⟩,⟨by show rs3.length≤10;omega,b4⟩,by show os.length≤10;omega,c5⟩
def ir (n:Nat) (d0:TE0) (d1:TE0) (K1:Int):Option (Lp Int (Sum Unit Unit)):=
    bif(decide (K1<((d0.af.length:Nat):Int))) then
     ((aB d0.af K1).bind λX1=>
     (aB d1.af K1).bind λX2=>
     bif(!(decide (X1=X2))) then
      (some (.br (.inl ())))
     else
      aL (inR .i64 (K1+1))<|
      some (.nx (K1+1)))
    else
     some (.br (.inr ()))
def iu (n:Nat) (rec_ref03_Same:TE0→TE0→Option Bool) (d0:TE0) (d1:TE0) (K2:Int):Option (Lp Int (Sum Unit Unit)):=
    bif(decide (K2<((d0.ac.length:Nat):Int))) then
     ((aB d0.ac K2).bind λX3=>
     (aB d1.ac K2).bind λX4=>
     (rec_ref03_Same X3 X4).bind λX5=>
     bif !X5 then
      (some (.br (.inl ())))
     else
      aL (inR .i64 (K2+1))<|
      some (.nx (K2+1)))
    else
     some (.br (.inr ()))
def kg (n:Nat) (rec_ref03_Same:TE0→TE0→Option Bool) (d0:TE0) (d1:TE0):Option Bool:=
 ((bif(!(decide (d0.ab=d1.ab))) then
  (some ((true)))
   else
    bif(!(d0.an==d1.an)) then
     (some ((true)))
    else
     bif(!(decide (d0.ak=d1.ak))) then
      (some ((true)))
     else
      bif(!(decide (d0.aa=d1.aa))) then
       (some ((true)))
      else
       bif(!(decide (((d0.ac.length:Nat):Int)=((d1.ac.length:Nat):Int)))) then
        (some ((true)))
       else
        some ((!(decide (((d0.af.length:Nat):Int)=((d1.af.length:Nat):Int))))):Option Bool)).bind λG1=>
 bif G1 then
  (some ((false)))
 else
  (au (ir n d0 d1) n (0:Int)).bind λQ3=>
  (match Q3 with
  |.inl G2=>some ((false))
  |.inr G3=>(au (iu n rec_ref03_Same d0 d1) n (0:Int)).bind λQ4=>
   (match Q4 with
   |.inl G4=>some ((false))
   |.inr G5=>some ((true))))
set_option maxRecDepth 20000 in
theorem rd (n:Nat) (rec_ref03_Same:TE0→TE0→Option Bool) (hrec_ref03_Same: ∀ (M:Mem) (c0:Lv) (d0:TE0) (h0:Rep M (ai d0) c0) (c1:Lv) (d1:TE0) (h1:Rep M (ai d1) c1) (r:Bool) (hF:rec_ref03_Same d0 d1=some r),Ok Tryz.prog M 65 [.agg c0.toArray,.agg c1.toArray] (λ_ v=>v=bO r)) (M:Mem) (c0:Lv) (d0:TE0) (h0:Rep M (ai d0) c0) (c1:Lv) (d1:TE0) (h1:Rep M (ai d1) c1) (r:Bool) (hF:kg n rec_ref03_Same d0 d1=some r):Ok Tryz.prog M 65 [.agg c0.toArray,.agg c1.toArray] (λ_ v=>v=bO r):=by
 unfold kg at hF
 intro M1 hM0 w0 H w p0
 replace h0:=Rep.mono hM0 _ _ h0
 replace h1:=Rep.mono hM0 _ _ h1
 obtain⟨Z1,P1,Z2,P2,rfl,B1,B2⟩:=TE0.opn h0
 obtain⟨Z3,P3,Z4,P4,rfl,B3,B4⟩:=TE0.opn h1
 refine Re 88 Tryz.func65 rfl λa0 f0=>RR (Y5 (cs:=(aTE0 d0 Z1 P1 Z2 P2)) (T:=26) f0 p0 λQ1 V1 W1 J1 R1 N1 _ f=>?_)
 have R2:=aU R1
 refine Y5 (cs:=(aTE0 d1 Z3 P3 Z4 P4)) (T:=26) f N1 λQ2 V2 W2 J2 R3 N2 _ f=>?_
 have R4:=aU R3
 refine Ye f 1 λ_ f=>ah (ah ?_)
 obtain⟨eF,cL,F1⟩:=bS hF
 refine aW (λa_40 W3=>∃G1,eF=G1∧∃V3,V2.le V3∧Frm 88 ((50,bO G1)::kpL [2,3] f.fr) a_40∧Hp w0 V3 (H) W3) ?_ ?_
 ·refine ay (Y f 1 λ_ f=>Y7 f N2 (fu R2) 0 rfl λ_ f=>Y f 1 λ_ f=>Y7 f N2 R4 0 rfl λ_ f=>Y f 2 λ_ f=>?_)
  rcases cE cL with⟨B5,F2⟩|⟨B5,F3⟩
  ·have f:=f.st 12 (cB B5)
   refine Ye f 38 λ_ f=>?_
   exact⟨_,(sI F2).symm,_,mL,f.kp,N2.kr⟩
  have f:=f.st 12 (cB B5)
  refine Y f 1 λ_ f=>Y7 f N2 (fu R2) 1 rfl λ_ f=>Y f 1 λ_ f=>Y7 f N2 R4 1 rfl λ_ f=>Y f 3 λ_ f=>?_
  rcases cE F3 with⟨B6,F4⟩|⟨B6,F5⟩
  ·have f:=f.st 19 (cB B6)
   refine Ye f 31 λ_ f=>?_
   exact⟨_,(sI F4).symm,_,mL,f.kp,N2.kr⟩
  have f:=f.st 19 (cB B6)
  refine Y f 1 λ_ f=>Y7 f N2 (fu R2) 2 rfl λ_ f=>Y f 1 λ_ f=>Y7 f N2 R4 2 rfl λ_ f=>Y f 3 λ_ f=>?_
  rcases cE F5 with⟨B7,F6⟩|⟨B7,F7⟩
  ·have f:=f.st 26 (cB B7)
   refine Ye f 24 λ_ f=>?_
   exact⟨_,(sI F6).symm,_,mL,f.kp,N2.kr⟩
  have f:=f.st 26 (cB B7)
  refine Y f 1 λ_ f=>Y7 f N2 (fu R2) 3 rfl λ_ f=>Y f 1 λ_ f=>Y7 f N2 R4 3 rfl λ_ f=>Z f (ep rfl (l:=d0.aa) (m:=d1.aa) kr kr) λ_ f=>Y f 2 λ_ f=>?_
  rcases cE F7 with⟨B8,F8⟩|⟨B8,F9⟩
  ·have f:=f.st 33 (cB B8)
   refine Ye f 17 λ_ f=>?_
   exact⟨_,(sI F8).symm,_,mL,f.kp,N2.kr⟩
  have f:=f.st 33 (cB B8)
  refine Y f 1 λ_ f=>Y7 f N2 (fu R2) 4 rfl λ_ f=>Y f 2 λ_ f=>Y7 f N2 R4 4 rfl λ_ f=>Y f 4 λ_ f=>?_
  rcases cE F9 with⟨B9,F10⟩|⟨B9,F11⟩
  ·have f:=f.st 42 (cB B9)
   refine Ye f 8 λ_ f=>?_
   exact⟨_,(sI F10).symm,_,mL,f.kp,N2.kr⟩
  have f:=f.st 42 (cB B9)
  refine Y f 1 λ_ f=>Y7 f N2 (fu R2) 5 rfl λ_ f=>Y f 2 λ_ f=>Y7 f N2 R4 5 rfl λ_ f=>Ye f 3 λ_ f=>?_
  exact⟨_,(sI F11).symm,_,mL,f.kp,N2.kr⟩
 rintro a_40 W3 ⟨G1,eS,V3,J3,f,N3⟩
 subst eF
 refine az (RcF f F1 (λB10 F12=>?_) λB10 F13=>?_)
 ·refine RR (Ye f 1 λ_ f=>wp_ret (bl (am f rfl (Lk 4 (bO false)) ?_)))
  cases sI F12
  exact⟨_,rfl,_,mL,N3.kr,rfl⟩
 refine St (ah (RR (Ye f 1 λ_ f=>wp_block ?_)))
 obtain⟨Q3,ce,F14⟩:=bS F13
 refine wp_mono (Q:=λe a w=>(e=.ret∧(∃G2,Q3=.inl G2∧∃V5,V3.le V5∧Frm 88 [(4,bO false)] a∧Hp w0 V5 (H) w))∨(e=.exit 0∧(∃G3,Q3=.inr G3∧∃V6,V3.le V6∧Frm 88 (kpL [2,3] f.fr) a∧Hp w0 V6 (H) w))) (aZ (σ:=Int) (λx=>match x with|(I1,K1)=>(((5,iL K1)::kpL [2,3] f.fr),(H),λMM=>au (ir n d0 d1) I1 K1=some Q3)) (n,(0:Int)) (f.kp) N3.kr ce ?_) ?_
 ·rintro⟨I1,K1⟩ V4 _ W4 J4 gL f N4
  have ci:=gL
  obtain⟨I2,lT,rfl,bg,T1⟩:=aK ci
  unfold ir at bg
  refine ah (RR (Y f 2 λ_ f=>Y7 f N4 (fu R2) 5 rfl λ_ f=>Ye f 2 λ_ f=>RcF f bg (λB11 F15=>?_) λB11 F21=>?_))
  ·refine St (ah (wp_block (ah (iG N4 kr kr (Y2 default f 1 λ_ f=>gx f (fu R2) 5 rfl kr kr λ_ f=>Y2 default f 1 λ_ f=>?_)))))
   obtain⟨X1,l1,F16⟩:=bS F15
   obtain⟨C1,dW,jC,D1,R5⟩:=Sli.aM V4 B2 l1
   obtain rfl:dW=[S X1]:=D1
   refine bD f kr (λ_ pq=>XI jC l1) λ_ f=>gx f R5 0 rfl kr kr λ_ f=>Y2 default f 1 λ_ f=>gx f (fu R4) 5 rfl kr kr λ_ f=>Y2 default f 1 λ_ f=>?_
   obtain⟨X2,l2,F17⟩:=bS F16
   obtain⟨C2,ie,ly,D2,R6⟩:=Sli.aM V4 B4 l2
   obtain rfl:ie=[S X2]:=D2
   refine bD f kr (λ_ pq=>XI ly l2) λ_ f=>gx f R6 0 rfl kr kr λ_ f=>bD (v:=bO (!(decide (X1=X2)))) f kr (λ_ pq=>ep rfl (l:=X1) (m:=X2) kr kr) λ_ f=>iS rfl ?_
   intro W5 N5
   refine az (RcF f F17 (λB12 F18=>?_) λB12 F19=>?_)
   ·refine RR (Ye f 1 λ_ f=>wp_ret (eu (bl (bl ?_))))
    cases sI F18
    exact .inl ⟨rfl,_,(sI T1).symm,_,J4,f.kp,N5.kr⟩
   refine wp_skip (ec (az (ay (Y f 1 λ_ f=>?_))))
   obtain⟨O1,F20⟩:=nS F19
   refine Y f 1 λ_ f=>?_
   have f:=f.st 57 (iW O1)
   refine Ye f 1 λ_ f=>?_
   cases sI F20
   exact⟨⟨_,_⟩,Nat.lt_succ_self _,_,J4,T1,f.kp,N5.kr⟩
  refine wp_exit (dJ (dJ ?_))
  cases sI F21
  exact .inr ⟨rfl,_,(sI T1).symm,_,J4,f.kp,N4.kr⟩
 rintro _ _ W8 (⟨rfl,G2,rfl,V5,J5,f,N6⟩|⟨rfl,G3,rfl,V6,J6,f,N7⟩)
 ·refine eu (bl (am f rfl (Lk 4 (bO false)) ?_))
  cases sI F14
  exact⟨_,rfl,_,mL,N6.kr,rfl⟩
 refine jV (az (ah (RR (Ye f 1 λ_ f=>wp_block ?_))))
 obtain⟨Q4,nI,F22⟩:=bS F14
 refine wp_mono (Q:=λe a w=>(e=.ret∧(∃G4,Q4=.inl G4∧∃V8,V6.le V8∧Frm 88 [(4,bO false)] a∧Hp w0 V8 (H) w))∨(e=.exit 2∧(∃G5,Q4=.inr G5∧∃V9,V6.le V9∧Frm 88 [] a∧Hp w0 V9 (H) w))) (aZ (σ:=Int) (λx=>match x with|(I3,K2)=>(((6,iL K2)::kpL [2,3] f.fr),(H),λMM=>au (iu n rec_ref03_Same d0 d1) I3 K2=some Q4)) (n,(0:Int)) (f.kp) N7.kr nI ?_) ?_
 ·rintro⟨I3,K2⟩ V7 _ W9 J7 I_2 f N8
  have nv:=I_2
  obtain⟨I4,r_2,rfl,kM,T2⟩:=aK nv
  unfold iu at kM
  refine ah (RR (Y f 2 λ_ f=>Y7 f N8 (fu R2) 4 rfl λ_ f=>Ye f 2 λ_ f=>RcF f kM (λB13 F23=>?_) λB13 F30=>?_))
  ·refine St (ah (wp_block (ah (iG N8 kr kr (Y2 default f 1 λ_ f=>gx f (fu R2) 4 rfl kr kr λ_ f=>Y2 default f 1 λ_ f=>?_)))))
   obtain⟨X3,l3,F24⟩:=bS F23
   obtain⟨C3,lQ,qm,D3,R7⟩:=Sli.aM V7 B1 l3
   obtain⟨Z5,P5,Z6,P6,rfl,B14,B15⟩:=TE0.opn D3
   refine bD f kr (λ_ pq=>XI qm l3) λ_ f=>bD f kr (λ_ pq=>XK pq R7 0) λ_ f=>Y2 default f 1 λ_ f=>gx f (fu R4) 4 rfl kr kr λ_ f=>Y2 default f 1 λ_ f=>?_
   obtain⟨X4,l4,F25⟩:=bS F24
   obtain⟨C4,rJ,qn,D4,R8⟩:=Sli.aM V7 B3 l4
   obtain⟨Z7,P7,Z8,P8,rfl,B16,B17⟩:=TE0.opn D4
   refine bD f kr (λ_ pq=>XI qn l4) λ_ f=>bD f kr (λ_ pq=>XK pq R8 0) λ_ f=>?_
   obtain⟨X5,l5,F26⟩:=bS F25
   refine ls f (hrec_ref03_Same _ _ X3 D3.mo _ X4 D4.mo X5 l5) kr (λ_=>by kernel_rfl) λ_ f=>Y2 default f 1 λ_ f=>iS rfl ?_
   intro W11 N10
   refine az (RcF f F26 (λB18 F27=>?_) λB18 F28=>?_)
   ·refine RR (Ye f 1 λ_ f=>wp_ret (eu (bl (bl ?_))))
    cases sI F27
    exact .inl ⟨rfl,_,(sI T2).symm,_,J7,f.kp,N10.kr⟩
   refine wp_skip (ec (az (ay (Y f 1 λ_ f=>?_))))
   obtain⟨O2,F29⟩:=nS F28
   refine Y f 1 λ_ f=>?_
   have f:=f.st 75 (iW O2)
   refine Ye f 1 λ_ f=>?_
   cases sI F29
   exact⟨⟨_,_⟩,Nat.lt_succ_self _,_,J7,T2,f.kp,N10.kr⟩
  refine wp_exit (dJ (dJ ?_))
  cases sI F30
  exact .inr ⟨rfl,_,(sI T2).symm,_,J7,f.kp,N8.kr⟩
 rintro _ _ W14 (⟨rfl,G4,rfl,V8,J8,f,N11⟩|⟨rfl,G5,rfl,V9,J9,f,N12⟩)
 ·refine eu (bl (am f rfl (Lk 4 (bO false)) ?_))
  cases sI F22
  exact⟨_,rfl,_,mL,N11.kr,rfl⟩
 refine jV (az (RR (Ye f 1 λ_ f=>wp_ret (am f rfl (Lk 4 (bO true)) ?_))))
 cases sI F22
 exact⟨_,rfl,_,mL,N12.kr,rfl⟩
def gE (n:Nat):Nat→TE0→TE0→Option Bool
 |0=>λ_ _=>none
 |k+1=>kg n (gE n k)
def mS (n:Nat) (d0:TE0) (d1:TE0):Option Bool:=gE n n d0 d1
theorem oH (n:Nat) (M:Mem) (c0:Lv) (d0:TE0) (h0:Rep M (ai d0) c0) (c1:Lv) (d1:TE0) (h1:Rep M (ai d1) c1) (r:Bool) (hF:mS n d0 d1=some r):Ok Tryz.prog M 65 [.agg c0.toArray,.agg c1.toArray] (λ_ v=>v=bO r):=by
 have key: ∀ (k:Nat) (M:Mem) (c0:Lv) (d0:TE0) (h0:Rep M (ai d0) c0) (c1:Lv) (d1:TE0) (h1:Rep M (ai d1) c1) (r:Bool) (hF:gE n k d0 d1=some r),Ok Tryz.prog M 65 [.agg c0.toArray,.agg c1.toArray] (λ_ v=>v=bO r):=by
  intro k
  induction k with
  |zero=>intro M c0 d0 h0 c1 d1 h1 r hF;simp[gE] at hF
  |succ k ih=>intro M c0 d0 h0 c1 d1 h1 r hF;exact rd n (gE n k) ih M c0 d0 h0 c1 d1 h1 r hF
 exact key n M c0 d0 h0 c1 d1 h1 r hF
def ei (n:Nat) (d0:TD0) (d1:TD0) (K1:Int):Option (Lp Int (Sum Unit Unit)):=
    bif(decide (K1<((d0.dO.length:Nat):Int))) then
     ((aB d0.dO K1).bind λX2=>
     (aB d1.dO K1).bind λX3=>
     (mS n X2 X3).bind λX4=>
     bif !X4 then
      (some (.br (.inl ())))
     else
      aL (inR .i64 (K1+1))<|
      some (.nx (K1+1)))
    else
     some (.br (.inr ()))
def ij (n:Nat) (d0:TD0) (d1:TD0):Option Bool:=
 ((bif(!(decide (d0.av=d1.av))) then
  (some ((true)))
   else
    bif(!(d0.jo==d1.jo)) then
     (some ((true)))
    else
     bif(!(d0.qo==d1.qo)) then
      (some ((true)))
     else
      (mS n d0.bb d1.bb).bind λX1=>
      bif !X1 then
       (some ((true)))
      else
       some ((!(decide (((d0.dO.length:Nat):Int)=((d1.dO.length:Nat):Int))))):Option Bool)).bind λG1=>
 bif G1 then
  (some ((false)))
 else
  (au (ei n d0 d1) n (0:Int)).bind λQ3=>
  (match Q3 with
  |.inl G2=>some ((false))
  |.inr G3=>some ((true)))
set_option maxRecDepth 20000 in
theorem pi (n:Nat) (M:Mem) (c0:Lv) (d0:TD0) (h0:Rep M (ba d0) c0) (c1:Lv) (d1:TD0) (h1:Rep M (ba d1) c1) (r:Bool) (hF:ij n d0 d1=some r):Ok Tryz.prog M 25 [.agg c0.toArray,.agg c1.toArray] (λ_ v=>v=bO r):=by
 unfold ij at hF
 intro M1 hM0 w0 H w p0
 replace h0:=Rep.mono hM0 _ _ h0
 replace h1:=Rep.mono hM0 _ _ h1
 obtain⟨Z1,P1,Z2,P2,Z3,P3,rfl,B1,B2,B3⟩:=TD0.opn h0
 obtain⟨Z4,P4,Z5,P5,Z6,P6,rfl,B4,B5,B6⟩:=TD0.opn h1
 refine Re 61 Tryz.func25 rfl λa0 f0=>RR (Y5 (cs:=(aTD0 d0 Z1 P1 Z2 P2 Z3 P3)) (T:=58) f0 p0 λQ1 V1 W1 J1 R1 N1 _ f=>?_)
 have R2:=aU R1
 refine Y5 (cs:=(aTD0 d1 Z4 P4 Z5 P5 Z6 P6)) (T:=58) f N1 λQ2 V2 W2 J2 R3 N2 _ f=>?_
 have R4:=aU R3
 refine Ye f 1 λ_ f=>ah (ah ?_)
 obtain⟨eF,cL,F1⟩:=bS hF
 refine aW (λa_35 W4=>∃G1,eF=G1∧∃V3,V2.le V3∧Frm 61 ((41,bO G1)::kpL [2,3] f.fr) a_35∧Hp w0 V3 (H) W4) ?_ ?_
 ·refine ay (Y f 1 λ_ f=>Y7 f N2 (fu R2) 0 rfl λ_ f=>Y f 1 λ_ f=>Y7 f N2 R4 0 rfl λ_ f=>Z f (ep rfl (l:=d0.av) (m:=d1.av) kr kr) λ_ f=>Y f 1 λ_ f=>?_)
  rcases cE cL with⟨B7,F2⟩|⟨B7,F3⟩
  ·have f:=f.st 11 (cB B7)
   refine Ye f 30 λ_ f=>?_
   exact⟨_,(sI F2).symm,_,mL,f.kp,N2.kr⟩
  have f:=f.st 11 (cB B7)
  refine Y f 1 λ_ f=>Y7 f N2 (fu R2) 1 rfl λ_ f=>Y f 1 λ_ f=>Y7 f N2 R4 1 rfl λ_ f=>Y f 3 λ_ f=>?_
  rcases cE F3 with⟨B8,F4⟩|⟨B8,F5⟩
  ·have f:=f.st 18 (cB B8)
   refine Ye f 23 λ_ f=>?_
   exact⟨_,(sI F4).symm,_,mL,f.kp,N2.kr⟩
  have f:=f.st 18 (cB B8)
  refine Y f 1 λ_ f=>Y7 f N2 (fu R2) 2 rfl λ_ f=>Y f 1 λ_ f=>Y7 f N2 R4 2 rfl λ_ f=>Y f 3 λ_ f=>?_
  rcases cE F5 with⟨B9,F6⟩|⟨B9,F7⟩
  ·have f:=f.st 25 (cB B9)
   refine Ye f 16 λ_ f=>?_
   exact⟨_,(sI F6).symm,_,mL,f.kp,N2.kr⟩
  have f:=f.st 25 (cB B9)
  refine Y f 1 λ_ f=>Z f (XK N2 R2 3) λ_ f=>Y f 1 λ_ f=>Z f (XK N2 R4 3) λ_ f=>?_
  obtain⟨X1,l1,F8⟩:=bS F7
  refine Y9 f N2 (oH n _ _ d0.bb (TE0.shutx B1.mo B2.mo) _ d1.bb (TE0.shutx B4.mo B5.mo) X1 l1) λW3 N3 _ f=>Y f 3 λ_ f=>?_
  rcases cE F8 with⟨B10,F9⟩|⟨B10,F10⟩
  ·have f:=f.st 33 (cB B10)
   refine Ye f 8 λ_ f=>?_
   exact⟨_,(sI F9).symm,_,mL,f.kp,N3.kr⟩
  have f:=f.st 33 (cB B10)
  refine Y f 1 λ_ f=>Y7 f N3 (fu R2) 9 rfl λ_ f=>Y f 2 λ_ f=>Y7 f N3 R4 9 rfl λ_ f=>Ye f 3 λ_ f=>?_
  exact⟨_,(sI F10).symm,_,mL,f.kp,N3.kr⟩
 rintro a_35 W4 ⟨G1,eS,V3,J3,f,N4⟩
 subst eF
 refine az (RcF f F1 (λB11 F11=>?_) λB11 F12=>?_)
 ·refine RR (Ye f 1 λ_ f=>wp_ret (bl (am f rfl (Lk 4 (bO false)) ?_)))
  cases sI F11
  exact⟨_,rfl,_,mL,N4.kr,rfl⟩
 refine St (ah (RR (Ye f 1 λ_ f=>wp_block ?_)))
 obtain⟨Q3,ce,F13⟩:=bS F12
 refine wp_mono (Q:=λe a w=>(e=.ret∧(∃G2,Q3=.inl G2∧∃V5,V3.le V5∧Frm 61 [(4,bO false)] a∧Hp w0 V5 (H) w))∨(e=.exit 0∧(∃G3,Q3=.inr G3∧∃V6,V3.le V6∧Frm 61 [] a∧Hp w0 V6 (H) w))) (aZ (σ:=Int) (λx=>match x with|(I1,K1)=>(((5,iL K1)::kpL [2,3] f.fr),(H),λMM=>au (ei n d0 d1) I1 K1=some Q3)) (n,(0:Int)) (f.kp) N4.kr ce ?_) ?_
 ·rintro⟨I1,K1⟩ V4 _ W5 J4 gL f N5
  have ci:=gL
  obtain⟨I2,lT,rfl,bg,T1⟩:=aK ci
  unfold ei at bg
  refine ah (RR (Y f 2 λ_ f=>Y7 f N5 (fu R2) 9 rfl λ_ f=>Ye f 2 λ_ f=>RcF f bg (λB12 F14=>?_) λB12 F21=>?_))
  ·refine St (ah (wp_block (ah (iG N5 kr kr (Y2 default f 1 λ_ f=>gx f (fu R2) 9 rfl kr kr λ_ f=>Y2 default f 1 λ_ f=>?_)))))
   obtain⟨X2,l2,F15⟩:=bS F14
   obtain⟨C1,dW,jC,D1,R5⟩:=Sli.aM V4 B3 l2
   obtain⟨Z7,P7,Z8,P8,rfl,B13,B14⟩:=TE0.opn D1
   refine bD f kr (λ_ pq=>XI jC l2) λ_ f=>bD f kr (λ_ pq=>XK pq R5 0) λ_ f=>Y2 default f 1 λ_ f=>gx f (fu R4) 9 rfl kr kr λ_ f=>Y2 default f 1 λ_ f=>?_
   obtain⟨X3,l3,F16⟩:=bS F15
   obtain⟨C2,ie,ly,D2,R6⟩:=Sli.aM V4 B6 l3
   obtain⟨Z9,P9,Z10,P10,rfl,B15,B16⟩:=TE0.opn D2
   refine bD f kr (λ_ pq=>XI ly l3) λ_ f=>bD f kr (λ_ pq=>XK pq R6 0) λ_ f=>?_
   obtain⟨X4,l4,F17⟩:=bS F16
   refine ls f (oH n _ _ X2 D1.mo _ X3 D2.mo X4 l4) kr (λ_=>by kernel_rfl) λ_ f=>Y2 default f 1 λ_ f=>iS rfl ?_
   intro W7 N7
   refine az (RcF f F17 (λB17 F18=>?_) λB17 F19=>?_)
   ·refine RR (Ye f 1 λ_ f=>wp_ret (eu (bl (bl ?_))))
    cases sI F18
    exact .inl ⟨rfl,_,(sI T1).symm,_,J4,f.kp,N7.kr⟩
   refine wp_skip (ec (az (ay (Y f 1 λ_ f=>?_))))
   obtain⟨O1,F20⟩:=nS F19
   refine Y f 1 λ_ f=>?_
   have f:=f.st 48 (iW O1)
   refine Ye f 1 λ_ f=>?_
   cases sI F20
   exact⟨⟨_,_⟩,Nat.lt_succ_self _,_,J4,T1,f.kp,N7.kr⟩
  refine wp_exit (dJ (dJ ?_))
  cases sI F21
  exact .inr ⟨rfl,_,(sI T1).symm,_,J4,f.kp,N5.kr⟩
 rintro _ _ W10 (⟨rfl,G2,rfl,V5,J5,f,N8⟩|⟨rfl,G3,rfl,V6,J6,f,N9⟩)
 ·refine eu (bl (am f rfl (Lk 4 (bO false)) ?_))
  cases sI F13
  exact⟨_,rfl,_,mL,N8.kr,rfl⟩
 refine jV (az (RR (Ye f 1 λ_ f=>wp_ret (am f rfl (Lk 4 (bO true)) ?_))))
 cases sI F13
 exact⟨_,rfl,_,mL,N9.kr,rfl⟩
def eI (n:Nat) (rec_ref13_sameCond:TH0→TH0→Option Bool) (d0:TH0) (d1:TH0) (K1:Int):Option (Lp Int (Sum Unit Unit)):=
    bif(decide (K1<((d0.fL.length:Nat):Int))) then
     ((aB d0.fL K1).bind λX3=>
     (aB d1.fL K1).bind λX4=>
     (rec_ref13_sameCond X3 X4).bind λX5=>
     bif !X5 then
      (some (.br (.inl ())))
     else
      aL (inR .i64 (K1+1))<|
      some (.nx (K1+1)))
    else
     some (.br (.inr ()))
def gX (n:Nat) (rec_ref13_sameCond:TH0→TH0→Option Bool) (d0:TH0) (d1:TH0):Option Bool:=
 ((bif(!(decide (d0.av=d1.av))) then
  (some ((true)))
   else
    bif(!(decide (d0.ab=d1.ab))) then
     (some ((true)))
    else
     bif(!(decide (((d0.fL.length:Nat):Int)=((d1.fL.length:Nat):Int)))) then
      (some ((true)))
     else
      (dS n d0.fA d1.fA).bind λX1=>
      bif !X1 then
       (some ((true)))
      else
       (dS n d0.fB d1.fB).bind λX2=>
       some ((!X2)):Option Bool)).bind λG1=>
 bif G1 then
  (some ((false)))
 else
  (au (eI n rec_ref13_sameCond d0 d1) n (0:Int)).bind λQ3=>
  (match Q3 with
  |.inl G2=>some ((false))
  |.inr G3=>some ((true)))
set_option maxRecDepth 20000 in
theorem oA (n:Nat) (rec_ref13_sameCond:TH0→TH0→Option Bool) (hrec_ref13_sameCond: ∀ (M:Mem) (c0:Lv) (d0:TH0) (h0:Rep M (aH d0) c0) (c1:Lv) (d1:TH0) (h1:Rep M (aH d1) c1) (r:Bool) (hF:rec_ref13_sameCond d0 d1=some r),Ok Tryz.prog M 26 [.agg c0.toArray,.agg c1.toArray] (λ_ v=>v=bO r)) (M:Mem) (c0:Lv) (d0:TH0) (h0:Rep M (aH d0) c0) (c1:Lv) (d1:TH0) (h1:Rep M (aH d1) c1) (r:Bool) (hF:gX n rec_ref13_sameCond d0 d1=some r):Ok Tryz.prog M 26 [.agg c0.toArray,.agg c1.toArray] (λ_ v=>v=bO r):=by
 unfold gX at hF
 intro M1 hM0 w0 H w p0
 replace h0:=Rep.mono hM0 _ _ h0
 replace h1:=Rep.mono hM0 _ _ h1
 obtain⟨Z1,P1,Z2,P2,Z3,P3,rfl,B1,B2,B3⟩:=TH0.opn h0
 obtain⟨Z4,P4,Z5,P5,Z6,P6,rfl,B4,B5,B6⟩:=TH0.opn h1
 refine Re 62 Tryz.func26 rfl λa0 f0=>RR (Y5 (cs:=(aTH0 d0 Z1 P1 Z2 P2 Z3 P3)) (T:=61) f0 p0 λQ1 V1 W1 J1 R1 N1 _ f=>?_)
 have R2:=aU R1
 refine Y5 (cs:=(aTH0 d1 Z4 P4 Z5 P5 Z6 P6)) (T:=61) f N1 λQ2 V2 W2 J2 R3 N2 _ f=>?_
 have R4:=aU R3
 refine Ye f 1 λ_ f=>ah (ah ?_)
 obtain⟨eF,cL,F1⟩:=bS hF
 refine aW (λa_36 W5=>∃G1,eF=G1∧∃V3,V2.le V3∧Frm 62 ((42,bO G1)::kpL [2,3] f.fr) a_36∧Hp w0 V3 (H) W5) ?_ ?_
 ·refine ay (Y f 1 λ_ f=>Y7 f N2 (fu R2) 0 rfl λ_ f=>Y f 1 λ_ f=>Y7 f N2 R4 0 rfl λ_ f=>Z f (ep rfl (l:=d0.av) (m:=d1.av) kr kr) λ_ f=>Y f 1 λ_ f=>?_)
  rcases cE cL with⟨B7,F2⟩|⟨B7,F3⟩
  ·have f:=f.st 11 (cB B7)
   refine Ye f 31 λ_ f=>?_
   exact⟨_,(sI F2).symm,_,mL,f.kp,N2.kr⟩
  have f:=f.st 11 (cB B7)
  refine Y f 1 λ_ f=>Y7 f N2 (fu R2) 1 rfl λ_ f=>Y f 1 λ_ f=>Y7 f N2 R4 1 rfl λ_ f=>Y f 3 λ_ f=>?_
  rcases cE F3 with⟨B8,F4⟩|⟨B8,F5⟩
  ·have f:=f.st 18 (cB B8)
   refine Ye f 24 λ_ f=>?_
   exact⟨_,(sI F4).symm,_,mL,f.kp,N2.kr⟩
  have f:=f.st 18 (cB B8)
  refine Y f 1 λ_ f=>Y7 f N2 (fu R2) 14 rfl λ_ f=>Y f 2 λ_ f=>Y7 f N2 R4 14 rfl λ_ f=>Y f 4 λ_ f=>?_
  rcases cE F5 with⟨B9,F6⟩|⟨B9,F7⟩
  ·have f:=f.st 27 (cB B9)
   refine Ye f 15 λ_ f=>?_
   exact⟨_,(sI F6).symm,_,mL,f.kp,N2.kr⟩
  have f:=f.st 27 (cB B9)
  refine Y f 1 λ_ f=>Z f (XK N2 R2 2) λ_ f=>Y f 1 λ_ f=>Z f (XK N2 R4 2) λ_ f=>?_
  obtain⟨X1,l1,F8⟩:=bS F7
  refine Y9 f N2 (iP n _ _ d0.fA (TG0.shutx B1.mo) _ d1.fA (TG0.shutx B4.mo) X1 l1) λW3 N3 _ f=>Y f 3 λ_ f=>?_
  rcases cE F8 with⟨B10,F9⟩|⟨B10,F10⟩
  ·have f:=f.st 35 (cB B10)
   refine Ye f 7 λ_ f=>?_
   exact⟨_,(sI F9).symm,_,mL,f.kp,N3.kr⟩
  have f:=f.st 35 (cB B10)
  refine Y f 1 λ_ f=>Z f (XK N3 R2 8) λ_ f=>Y f 1 λ_ f=>Z f (XK N3 R4 8) λ_ f=>?_
  obtain⟨X2,l2,F11⟩:=bS F10
  refine Y9 f N3 (iP n _ _ d0.fB (TG0.shutx B2.mo) _ d1.fB (TG0.shutx B5.mo) X2 l2) λW4 N4 _ f=>Ye f 2 λ_ f=>?_
  exact⟨_,(sI F11).symm,_,mL,f.kp,N4.kr⟩
 rintro a_36 W5 ⟨G1,eS,V3,J3,f,N5⟩
 subst eF
 refine az (RcF f F1 (λB11 F12=>?_) λB11 F13=>?_)
 ·refine RR (Ye f 1 λ_ f=>wp_ret (bl (am f rfl (Lk 4 (bO false)) ?_)))
  cases sI F12
  exact⟨_,rfl,_,mL,N5.kr,rfl⟩
 refine St (ah (RR (Ye f 1 λ_ f=>wp_block ?_)))
 obtain⟨Q3,ce,F14⟩:=bS F13
 refine wp_mono (Q:=λe a w=>(e=.ret∧(∃G2,Q3=.inl G2∧∃V5,V3.le V5∧Frm 62 [(4,bO false)] a∧Hp w0 V5 (H) w))∨(e=.exit 0∧(∃G3,Q3=.inr G3∧∃V6,V3.le V6∧Frm 62 [] a∧Hp w0 V6 (H) w))) (aZ (σ:=Int) (λx=>match x with|(I1,K1)=>(((5,iL K1)::kpL [2,3] f.fr),(H),λMM=>au (eI n rec_ref13_sameCond d0 d1) I1 K1=some Q3)) (n,(0:Int)) (f.kp) N5.kr ce ?_) ?_
 ·rintro⟨I1,K1⟩ V4 _ W6 J4 gL f N6
  have ci:=gL
  obtain⟨I2,lT,rfl,bg,T1⟩:=aK ci
  unfold eI at bg
  refine ah (RR (Y f 2 λ_ f=>Y7 f N6 (fu R2) 14 rfl λ_ f=>Ye f 2 λ_ f=>RcF f bg (λB12 F15=>?_) λB12 F22=>?_))
  ·refine St (ah (wp_block (ah (iG N6 kr kr (Y2 default f 1 λ_ f=>gx f (fu R2) 14 rfl kr kr λ_ f=>Y2 default f 1 λ_ f=>?_)))))
   obtain⟨X3,l3,F16⟩:=bS F15
   obtain⟨C1,dW,jC,D1,R5⟩:=Sli.aM V4 B3 l3
   obtain⟨Z7,P7,Z8,P8,Z9,P9,rfl,B13,B14,B15⟩:=TH0.opn D1
   refine bD f kr (λ_ pq=>XI jC l3) λ_ f=>bD f kr (λ_ pq=>XK pq R5 0) λ_ f=>Y2 default f 1 λ_ f=>gx f (fu R4) 14 rfl kr kr λ_ f=>Y2 default f 1 λ_ f=>?_
   obtain⟨X4,l4,F17⟩:=bS F16
   obtain⟨C2,ie,ly,D2,R6⟩:=Sli.aM V4 B6 l4
   obtain⟨Z10,P10,Z11,P11,Z12,P12,rfl,B16,B17,B18⟩:=TH0.opn D2
   refine bD f kr (λ_ pq=>XI ly l4) λ_ f=>bD f kr (λ_ pq=>XK pq R6 0) λ_ f=>?_
   obtain⟨X5,l5,F18⟩:=bS F17
   refine ls f (hrec_ref13_sameCond _ _ X3 D1.mo _ X4 D2.mo X5 l5) kr (λ_=>by kernel_rfl) λ_ f=>Y2 default f 1 λ_ f=>iS rfl ?_
   intro W8 N8
   refine az (RcF f F18 (λB19 F19=>?_) λB19 F20=>?_)
   ·refine RR (Ye f 1 λ_ f=>wp_ret (eu (bl (bl ?_))))
    cases sI F19
    exact .inl ⟨rfl,_,(sI T1).symm,_,J4,f.kp,N8.kr⟩
   refine wp_skip (ec (az (ay (Y f 1 λ_ f=>?_))))
   obtain⟨O1,F21⟩:=nS F20
   refine Y f 1 λ_ f=>?_
   have f:=f.st 49 (iW O1)
   refine Ye f 1 λ_ f=>?_
   cases sI F21
   exact⟨⟨_,_⟩,Nat.lt_succ_self _,_,J4,T1,f.kp,N8.kr⟩
  refine wp_exit (dJ (dJ ?_))
  cases sI F22
  exact .inr ⟨rfl,_,(sI T1).symm,_,J4,f.kp,N6.kr⟩
 rintro _ _ W11 (⟨rfl,G2,rfl,V5,J5,f,N9⟩|⟨rfl,G3,rfl,V6,J6,f,N10⟩)
 ·refine eu (bl (am f rfl (Lk 4 (bO false)) ?_))
  cases sI F14
  exact⟨_,rfl,_,mL,N9.kr,rfl⟩
 refine jV (az (RR (Ye f 1 λ_ f=>wp_ret (am f rfl (Lk 4 (bO true)) ?_))))
 cases sI F14
 exact⟨_,rfl,_,mL,N10.kr,rfl⟩
def dC (n:Nat):Nat→TH0→TH0→Option Bool
 |0=>λ_ _=>none
 |k+1=>gX n (dC n k)
def lI (n:Nat) (d0:TH0) (d1:TH0):Option Bool:=dC n n d0 d1
theorem pZ (n:Nat) (M:Mem) (c0:Lv) (d0:TH0) (h0:Rep M (aH d0) c0) (c1:Lv) (d1:TH0) (h1:Rep M (aH d1) c1) (r:Bool) (hF:lI n d0 d1=some r):Ok Tryz.prog M 26 [.agg c0.toArray,.agg c1.toArray] (λ_ v=>v=bO r):=by
 have key: ∀ (k:Nat) (M:Mem) (c0:Lv) (d0:TH0) (h0:Rep M (aH d0) c0) (c1:Lv) (d1:TH0) (h1:Rep M (aH d1) c1) (r:Bool) (hF:dC n k d0 d1=some r),Ok Tryz.prog M 26 [.agg c0.toArray,.agg c1.toArray] (λ_ v=>v=bO r):=by
  intro k
  induction k with
  |zero=>intro M c0 d0 h0 c1 d1 h1 r hF;simp[dC] at hF
  |succ k ih=>intro M c0 d0 h0 c1 d1 h1 r hF;exact oA n (dC n k) ih M c0 d0 h0 c1 d1 h1 r hF
 exact key n M c0 d0 h0 c1 d1 h1 r hF
def ej (n:Nat) (d0:List TF0) (d1:List TF0) (K1:Int):Option (Lp Int (Sum Unit Unit)):=
    bif(decide (K1<((d0.length:Nat):Int))) then
     ((aB d0 K1).bind λX1=>
     (aB d1 K1).bind λX2=>
     bif(!(decide (X1.av=X2.av))) then
      (some (.br (.inl ())))
     else
      (aB d0 K1).bind λX3=>
      (aB d1 K1).bind λX4=>
      (dS n X3.fE X4.fE).bind λX5=>
      bif !X5 then
       (some (.br (.inl ())))
      else
       aL (inR .i64 (K1+1))<|
       some (.nx (K1+1)))
    else
     some (.br (.inr ()))
def ik (n:Nat) (d0:List TF0) (d1:List TF0):Option Bool:=
 bif(!(decide (((d0.length:Nat):Int)=((d1.length:Nat):Int)))) then
  (some ((false)))
 else
  (au (ej n d0 d1) n (0:Int)).bind λQ1=>
  (match Q1 with
  |.inl G1=>some ((false))
  |.inr G2=>some ((true)))
set_option maxRecDepth 20000 in
theorem pj (n:Nat) (M:Mem) (A0:Oa) (cap0:Nat) (d0:List TF0) (h0:Sli M 7 cI A0 cap0 d0) (A1:Oa) (cap1:Nat) (d1:List TF0) (h1:Sli M 7 cI A1 cap1 d1) (r:Bool) (hF:ik n d0 d1=some r):Ok Tryz.prog M 66 [sL A0 d0 cap0,sL A1 d1 cap1] (λ_ v=>v=bO r):=by
 unfold ik at hF
 intro M1 hM0 w0 H w p0
 replace h0:=h0.mono hM0
 replace h1:=h1.mono hM0
 refine Re 42 Tryz.func66 rfl λa0 f0=>RR (Ye f0 1 λ_ f=>ah (RR (Ye f 5 λ_ f=>RcF f hF (λB1 F1=>?_) λB1 F2=>?_)))
 ·refine RR (Ye f 1 λ_ f=>wp_ret (bl (am f rfl (Lk 4 (bO false)) ?_)))
  cases sI F1
  exact⟨_,rfl,M1,mL,p0.kr,rfl⟩
 refine St (ah (RR (Ye f 1 λ_ f=>wp_block ?_)))
 obtain⟨Q1,ce,F3⟩:=bS F2
 refine wp_mono (Q:=λe a w=>(e=.ret∧(∃G1,Q1=.inl G1∧∃V2,M1.le V2∧Frm 42 [(4,bO false)] a∧Hp w0 V2 (H) w))∨(e=.exit 0∧(∃G2,Q1=.inr G2∧∃V3,M1.le V3∧Frm 42 [] a∧Hp w0 V3 (H) w))) (aZ (σ:=Int) (λx=>match x with|(I1,K1)=>(((5,iL K1)::kpL [0,1] f.fr),(H),λMM=>au (ej n d0 d1) I1 K1=some Q1)) (n,(0:Int)) (f.kp) p0.kr ce ?_) ?_
 ·rintro⟨I1,K1⟩ V1 _ W1 J1 gL f N1
  have ci:=gL
  obtain⟨I2,lT,rfl,bg,T1⟩:=aK ci
  unfold ej at bg
  refine ah (RR (Ye f 4 λ_ f=>RcF f bg (λB2 F4=>?_) λB2 F15=>?_))
  ·refine St (ah (wp_block (ah (iG N1 kr kr (Y2 default f 2 λ_ f=>?_)))))
   obtain⟨X1,l1,F5⟩:=bS F4
   obtain⟨C1,dW,jC,D1,R1⟩:=Sli.aM V1 h0 l1
   obtain⟨Z1,P1,rfl,B3⟩:=TF0.opn D1
   refine bD f kr (λ_ pq=>XI jC l1) λ_ f=>Y2 default f 1 λ_ f=>gx f R1 0 rfl kr kr λ_ f=>Y2 default f 2 λ_ f=>?_
   obtain⟨X2,l2,F6⟩:=bS F5
   obtain⟨C2,ie,ly,D2,R2⟩:=Sli.aM V1 h1 l2
   obtain⟨Z2,P2,rfl,B4⟩:=TF0.opn D2
   refine bD f kr (λ_ pq=>XI ly l2) λ_ f=>Y2 default f 1 λ_ f=>gx f R2 0 rfl kr kr λ_ f=>bD (v:=bO (!(decide (X1.av=X2.av)))) f kr (λ_ pq=>ep rfl (l:=X1.av) (m:=X2.av) kr kr) λ_ f=>Y2 default f 1 λ_ f=>?_
   rcases cE F6 with⟨B5,F7⟩|⟨B5,F8⟩
   ·have f:=f.st 28 (cB B5)
    refine Y2 default f 13 λ_ f=>iS rfl ?_
    intro W2 N2
    refine az (iT f kr kr (RR (Ye f 1 λ_ f=>wp_ret (eu (bl (bl ?_))))))
    cases sI F7
    exact .inl ⟨rfl,_,(sI T1).symm,_,J1,f.kp,N2.kr⟩
   have f:=f.st 28 (cB B5)
   refine Y2 default f 2 λ_ f=>?_
   obtain⟨X3,l3,F9⟩:=bS F8
   obtain⟨C3,lQ,qm,D3,R3⟩:=Sli.aM V1 h0 l3
   obtain⟨Z3,P3,rfl,B6⟩:=TF0.opn D3
   refine bD f kr (λ_ pq=>XI qm l3) λ_ f=>Y2 default f 1 λ_ f=>bD f kr (λ_ pq=>XK pq R3 1) λ_ f=>Y2 default f 2 λ_ f=>?_
   obtain⟨X4,l4,F10⟩:=bS F9
   obtain⟨C4,rJ,qn,D4,R4⟩:=Sli.aM V1 h1 l4
   obtain⟨Z4,P4,rfl,B7⟩:=TF0.opn D4
   refine bD f kr (λ_ pq=>XI qn l4) λ_ f=>Y2 default f 1 λ_ f=>bD f kr (λ_ pq=>XK pq R4 1) λ_ f=>?_
   obtain⟨X5,l5,F11⟩:=bS F10
   refine ls f (iP n _ _ X3.fE (TG0.shutx B6) _ X4.fE (TG0.shutx B7) X5 l5) kr (λ_=>by kernel_rfl) λ_ f=>Y2 default f 2 λ_ f=>iS rfl ?_
   intro W4 N4
   refine az (RcF f F11 (λB8 F12=>?_) λB8 F13=>?_)
   ·refine RR (Ye f 1 λ_ f=>wp_ret (eu (bl (bl ?_))))
    cases sI F12
    exact .inl ⟨rfl,_,(sI T1).symm,_,J1,f.kp,N4.kr⟩
   refine wp_skip (ec (az (ay (Y f 1 λ_ f=>?_))))
   obtain⟨O1,F14⟩:=nS F13
   refine Y f 1 λ_ f=>?_
   have f:=f.st 16 (iW O1)
   refine Ye f 1 λ_ f=>?_
   cases sI F14
   exact⟨⟨_,_⟩,Nat.lt_succ_self _,_,J1,T1,f.kp,N4.kr⟩
  refine wp_exit (dJ (dJ ?_))
  cases sI F15
  exact .inr ⟨rfl,_,(sI T1).symm,_,J1,f.kp,N1.kr⟩
 rintro _ _ W7 (⟨rfl,G1,rfl,V2,J2,f,N5⟩|⟨rfl,G2,rfl,V3,J3,f,N6⟩)
 ·refine eu (bl (am f rfl (Lk 4 (bO false)) ?_))
  cases sI F3
  exact⟨_,rfl,_,J2,N5.kr,rfl⟩
 refine jV (az (RR (Ye f 1 λ_ f=>wp_ret (am f rfl (Lk 4 (bO true)) ?_))))
 cases sI F3
 exact⟨_,rfl,_,J3,N6.kr,rfl⟩
def cP (n:Nat) (d0:TA0) (d1:TA0) (K1:Int):Option (Lp Int (Sum Unit Unit)):=
    bif(decide (K1<((d0.df.length:Nat):Int))) then
     ((aB d0.df K1).bind λX2=>
     (aB d1.df K1).bind λX3=>
     bif(!(decide (X2=X3))) then
      (some (.br (.inl ())))
     else
      aL (inR .i64 (K1+1))<|
      some (.nx (K1+1)))
    else
     some (.br (.inr ()))
def cQ (n:Nat) (rec_ref13_Same:TB0→TB0→Option Bool) (d0:TA0) (d1:TA0) (K2:Int):Option (Lp Int (Sum Unit Unit)):=
    bif(decide (K2<((d0.gq.length:Nat):Int))) then
     ((aB d0.gq K2).bind λX4=>
     (aB d1.gq K2).bind λX5=>
     (rec_ref13_Same X4 X5).bind λX6=>
     bif !X6 then
      (some (.br (.inl ())))
     else
      aL (inR .i64 (K2+1))<|
      some (.nx (K2+1)))
    else
     some (.br (.inr ()))
def eA (n:Nat) (rec_ref13_Same:TB0→TB0→Option Bool) (d0:TA0) (d1:TA0):Option Bool:=
 ((bif(!(decide (d0.tU=d1.tU))) then
  (some ((true)))
   else
    bif(!(decide (d0.lz=d1.lz))) then
     (some ((true)))
    else
     bif(!(decide (d0.gp=d1.gp))) then
      (some ((true)))
     else
      bif(!(d0.jp==d1.jp)) then
       (some ((true)))
      else
       bif(!(decide (((d0.df.length:Nat):Int)=((d1.df.length:Nat):Int)))) then
        (some ((true)))
       else
        bif(!(decide (((d0.gq.length:Nat):Int)=((d1.gq.length:Nat):Int)))) then
         (some ((true)))
        else
         (ik n d0.kb d1.kb).bind λX1=>
         some ((!X1)):Option Bool)).bind λG1=>
 bif G1 then
  (some ((false)))
 else
  (au (cP n d0 d1) n (0:Int)).bind λQ3=>
  (match Q3 with
  |.inl G2=>some ((false))
  |.inr G3=>(au (cQ n rec_ref13_Same d0 d1) n (0:Int)).bind λQ4=>
   (match Q4 with
   |.inl G4=>some ((false))
   |.inr G5=>some ((true))))
set_option maxRecDepth 20000 in
theorem mz (n:Nat) (rec_ref13_Same:TB0→TB0→Option Bool) (hrec_ref13_Same: ∀ (M:Mem) (c0:Lv) (d0:TB0) (h0:Rep M (bB d0) c0) (c1:Lv) (d1:TB0) (h1:Rep M (bB d1) c1) (r:Bool) (hF:rec_ref13_Same d0 d1=some r),Ok Tryz.prog M 13 [.agg c0.toArray,.agg c1.toArray] (λ_ v=>v=bO r)) (M:Mem) (c0:Lv) (d0:TA0) (h0:Rep M (aY d0) c0) (c1:Lv) (d1:TA0) (h1:Rep M (aY d1) c1) (r:Bool) (hF:eA n rec_ref13_Same d0 d1=some r):Ok Tryz.prog M 27 [.agg c0.toArray,.agg c1.toArray] (λ_ v=>v=bO r):=by
 unfold eA at hF
 intro M1 hM0 w0 H w p0
 replace h0:=Rep.mono hM0 _ _ h0
 replace h1:=Rep.mono hM0 _ _ h1
 obtain⟨Z1,P1,Z2,P2,Z3,P3,rfl,B1,B2,B3⟩:=TA0.opn h0
 obtain⟨Z4,P4,Z5,P5,Z6,P6,rfl,B4,B5,B6⟩:=TA0.opn h1
 refine Re 96 Tryz.func27 rfl λa0 f0=>RR (Y5 (cs:=(aTA0 d0 Z1 P1 Z2 P2 Z3 P3)) (T:=66) f0 p0 λQ1 V1 W1 J1 R1 N1 _ f=>?_)
 have R2:=aU R1
 refine Y5 (cs:=(aTA0 d1 Z4 P4 Z5 P5 Z6 P6)) (T:=66) f N1 λQ2 V2 W2 J2 R3 N2 _ f=>?_
 have R4:=aU R3
 refine Ye f 1 λ_ f=>ah (ah ?_)
 obtain⟨eF,cL,F1⟩:=bS hF
 refine aW (λa_49 W4=>∃G1,eF=G1∧∃V3,V2.le V3∧Frm 96 ((58,bO G1)::kpL [2,3] f.fr) a_49∧Hp w0 V3 (H) W4) ?_ ?_
 ·refine ay (Y f 1 λ_ f=>Y7 f N2 (fu R2) 0 rfl λ_ f=>Y f 1 λ_ f=>Y7 f N2 R4 0 rfl λ_ f=>Z f (ep rfl (l:=d0.tU) (m:=d1.tU) kr kr) λ_ f=>Y f 1 λ_ f=>?_)
  rcases cE cL with⟨B7,F2⟩|⟨B7,F3⟩
  ·have f:=f.st 12 (cB B7)
   refine Ye f 46 λ_ f=>?_
   exact⟨_,(sI F2).symm,_,mL,f.kp,N2.kr⟩
  have f:=f.st 12 (cB B7)
  refine Y f 1 λ_ f=>Y7 f N2 (fu R2) 1 rfl λ_ f=>Y f 1 λ_ f=>Y7 f N2 R4 1 rfl λ_ f=>Z f (ep rfl (l:=d0.lz) (m:=d1.lz) kr kr) λ_ f=>Y f 2 λ_ f=>?_
  rcases cE F3 with⟨B8,F4⟩|⟨B8,F5⟩
  ·have f:=f.st 19 (cB B8)
   refine Ye f 39 λ_ f=>?_
   exact⟨_,(sI F4).symm,_,mL,f.kp,N2.kr⟩
  have f:=f.st 19 (cB B8)
  refine Y f 1 λ_ f=>Y7 f N2 (fu R2) 2 rfl λ_ f=>Y f 1 λ_ f=>Y7 f N2 R4 2 rfl λ_ f=>Z f (ep rfl (l:=d0.gp) (m:=d1.gp) kr kr) λ_ f=>Y f 2 λ_ f=>?_
  rcases cE F5 with⟨B9,F6⟩|⟨B9,F7⟩
  ·have f:=f.st 26 (cB B9)
   refine Ye f 32 λ_ f=>?_
   exact⟨_,(sI F6).symm,_,mL,f.kp,N2.kr⟩
  have f:=f.st 26 (cB B9)
  refine Y f 1 λ_ f=>Y7 f N2 (fu R2) 5 rfl λ_ f=>Y f 1 λ_ f=>Y7 f N2 R4 5 rfl λ_ f=>Y f 3 λ_ f=>?_
  rcases cE F7 with⟨B10,F8⟩|⟨B10,F9⟩
  ·have f:=f.st 33 (cB B10)
   refine Ye f 25 λ_ f=>?_
   exact⟨_,(sI F8).symm,_,mL,f.kp,N2.kr⟩
  have f:=f.st 33 (cB B10)
  refine Y f 1 λ_ f=>Y7 f N2 (fu R2) 4 rfl λ_ f=>Y f 2 λ_ f=>Y7 f N2 R4 4 rfl λ_ f=>Y f 4 λ_ f=>?_
  rcases cE F9 with⟨B11,F10⟩|⟨B11,F11⟩
  ·have f:=f.st 42 (cB B11)
   refine Ye f 16 λ_ f=>?_
   exact⟨_,(sI F10).symm,_,mL,f.kp,N2.kr⟩
  have f:=f.st 42 (cB B11)
  refine Y f 1 λ_ f=>Y7 f N2 (fu R2) 6 rfl λ_ f=>Y f 2 λ_ f=>Y7 f N2 R4 6 rfl λ_ f=>Y f 4 λ_ f=>?_
  rcases cE F11 with⟨B12,F12⟩|⟨B12,F13⟩
  ·have f:=f.st 51 (cB B12)
   refine Ye f 7 λ_ f=>?_
   exact⟨_,(sI F12).symm,_,mL,f.kp,N2.kr⟩
  have f:=f.st 51 (cB B12)
  refine Y f 1 λ_ f=>Y7 f N2 (fu R2) 3 rfl λ_ f=>Y f 1 λ_ f=>Y7 f N2 R4 3 rfl λ_ f=>?_
  obtain⟨X1,l1,F14⟩:=bS F13
  refine Y9 f N2 (pj n _ Z1 P1 d0.kb B1.mo Z4 P4 d1.kb B4.mo X1 l1) λW3 N3 _ f=>Ye f 2 λ_ f=>?_
  exact⟨_,(sI F14).symm,_,mL,f.kp,N3.kr⟩
 rintro a_49 W4 ⟨G1,eS,V3,J3,f,N4⟩
 subst eF
 refine az (RcF f F1 (λB13 F15=>?_) λB13 F16=>?_)
 ·refine RR (Ye f 1 λ_ f=>wp_ret (bl (am f rfl (Lk 4 (bO false)) ?_)))
  cases sI F15
  exact⟨_,rfl,_,mL,N4.kr,rfl⟩
 refine St (ah (RR (Ye f 1 λ_ f=>wp_block ?_)))
 obtain⟨Q3,ce,F17⟩:=bS F16
 refine wp_mono (Q:=λe a w=>(e=.ret∧(∃G2,Q3=.inl G2∧∃V5,V3.le V5∧Frm 96 [(4,bO false)] a∧Hp w0 V5 (H) w))∨(e=.exit 0∧(∃G3,Q3=.inr G3∧∃V6,V3.le V6∧Frm 96 (kpL [2,3] f.fr) a∧Hp w0 V6 (H) w))) (aZ (σ:=Int) (λx=>match x with|(I1,K1)=>(((5,iL K1)::kpL [2,3] f.fr),(H),λMM=>au (cP n d0 d1) I1 K1=some Q3)) (n,(0:Int)) (f.kp) N4.kr ce ?_) ?_
 ·rintro⟨I1,K1⟩ V4 _ W5 J4 gL f N5
  have ci:=gL
  obtain⟨I2,lT,rfl,bg,T1⟩:=aK ci
  unfold cP at bg
  refine ah (RR (Y f 2 λ_ f=>Y7 f N5 (fu R2) 4 rfl λ_ f=>Ye f 2 λ_ f=>RcF f bg (λB14 F18=>?_) λB14 F24=>?_))
  ·refine St (ah (wp_block (ah (iG N5 kr kr (Y2 default f 1 λ_ f=>gx f (fu R2) 4 rfl kr kr λ_ f=>Y2 default f 1 λ_ f=>?_)))))
   obtain⟨X2,l2,F19⟩:=bS F18
   obtain⟨C1,dW,jC,D1,R5⟩:=Sli.aM V4 B2 l2
   obtain rfl:dW=[S X2]:=D1
   refine bD f kr (λ_ pq=>XI jC l2) λ_ f=>gx f R5 0 rfl kr kr λ_ f=>Y2 default f 1 λ_ f=>gx f (fu R4) 4 rfl kr kr λ_ f=>Y2 default f 1 λ_ f=>?_
   obtain⟨X3,l3,F20⟩:=bS F19
   obtain⟨C2,ie,ly,D2,R6⟩:=Sli.aM V4 B5 l3
   obtain rfl:ie=[S X3]:=D2
   refine bD f kr (λ_ pq=>XI ly l3) λ_ f=>gx f R6 0 rfl kr kr λ_ f=>bD (v:=bO (!(decide (X2=X3)))) f kr (λ_ pq=>ep rfl (l:=X2) (m:=X3) kr kr) λ_ f=>iS rfl ?_
   intro W6 N6
   refine az (RcF f F20 (λB15 F21=>?_) λB15 F22=>?_)
   ·refine RR (Ye f 1 λ_ f=>wp_ret (eu (bl (bl ?_))))
    cases sI F21
    exact .inl ⟨rfl,_,(sI T1).symm,_,J4,f.kp,N6.kr⟩
   refine wp_skip (ec (az (ay (Y f 1 λ_ f=>?_))))
   obtain⟨O1,F23⟩:=nS F22
   refine Y f 1 λ_ f=>?_
   have f:=f.st 65 (iW O1)
   refine Ye f 1 λ_ f=>?_
   cases sI F23
   exact⟨⟨_,_⟩,Nat.lt_succ_self _,_,J4,T1,f.kp,N6.kr⟩
  refine wp_exit (dJ (dJ ?_))
  cases sI F24
  exact .inr ⟨rfl,_,(sI T1).symm,_,J4,f.kp,N5.kr⟩
 rintro _ _ W9 (⟨rfl,G2,rfl,V5,J5,f,N7⟩|⟨rfl,G3,rfl,V6,J6,f,N8⟩)
 ·refine eu (bl (am f rfl (Lk 4 (bO false)) ?_))
  cases sI F17
  exact⟨_,rfl,_,mL,N7.kr,rfl⟩
 refine jV (az (ah (RR (Ye f 1 λ_ f=>wp_block ?_))))
 obtain⟨Q4,nI,F25⟩:=bS F17
 refine wp_mono (Q:=λe a w=>(e=.ret∧(∃G4,Q4=.inl G4∧∃V8,V6.le V8∧Frm 96 [(4,bO false)] a∧Hp w0 V8 (H) w))∨(e=.exit 2∧(∃G5,Q4=.inr G5∧∃V9,V6.le V9∧Frm 96 [] a∧Hp w0 V9 (H) w))) (aZ (σ:=Int) (λx=>match x with|(I3,K2)=>(((6,iL K2)::kpL [2,3] f.fr),(H),λMM=>au (cQ n rec_ref13_Same d0 d1) I3 K2=some Q4)) (n,(0:Int)) (f.kp) N8.kr nI ?_) ?_
 ·rintro⟨I3,K2⟩ V7 _ W10 J7 I_2 f N9
  have nv:=I_2
  obtain⟨I4,r_2,rfl,kM,T2⟩:=aK nv
  unfold cQ at kM
  refine ah (RR (Y f 2 λ_ f=>Y7 f N9 (fu R2) 6 rfl λ_ f=>Ye f 2 λ_ f=>RcF f kM (λB16 F26=>?_) λB16 F33=>?_))
  ·refine St (ah (wp_block (ah (iG N9 kr kr (Y2 default f 1 λ_ f=>gx f (fu R2) 6 rfl kr kr λ_ f=>Y2 default f 1 λ_ f=>?_)))))
   obtain⟨X4,l4,F27⟩:=bS F26
   obtain⟨C3,lQ,qm,D3,R7⟩:=Sli.aM V7 B3 l4
   obtain⟨Z7,P7,Z8,P8,Z9,P9,Z10,P10,rfl,B17,B18,B19,B20⟩:=TB0.opn D3
   refine bD f kr (λ_ pq=>XI qm l4) λ_ f=>bD f kr (λ_ pq=>XK pq R7 0) λ_ f=>Y2 default f 1 λ_ f=>gx f (fu R4) 6 rfl kr kr λ_ f=>Y2 default f 1 λ_ f=>?_
   obtain⟨X5,l5,F28⟩:=bS F27
   obtain⟨C4,rJ,qn,D4,R8⟩:=Sli.aM V7 B6 l5
   obtain⟨Z11,P11,Z12,P12,Z13,P13,Z14,P14,rfl,B21,B22,B23,B24⟩:=TB0.opn D4
   refine bD f kr (λ_ pq=>XI qn l5) λ_ f=>bD f kr (λ_ pq=>XK pq R8 0) λ_ f=>?_
   obtain⟨X6,l6,F29⟩:=bS F28
   refine ls f (hrec_ref13_Same _ _ X4 D3.mo _ X5 D4.mo X6 l6) kr (λ_=>by kernel_rfl) λ_ f=>Y2 default f 1 λ_ f=>iS rfl ?_
   intro W12 N11
   refine az (RcF f F29 (λB25 F30=>?_) λB25 F31=>?_)
   ·refine RR (Ye f 1 λ_ f=>wp_ret (eu (bl (bl ?_))))
    cases sI F30
    exact .inl ⟨rfl,_,(sI T2).symm,_,J7,f.kp,N11.kr⟩
   refine wp_skip (ec (az (ay (Y f 1 λ_ f=>?_))))
   obtain⟨O2,F32⟩:=nS F31
   refine Y f 1 λ_ f=>?_
   have f:=f.st 83 (iW O2)
   refine Ye f 1 λ_ f=>?_
   cases sI F32
   exact⟨⟨_,_⟩,Nat.lt_succ_self _,_,J7,T2,f.kp,N11.kr⟩
  refine wp_exit (dJ (dJ ?_))
  cases sI F33
  exact .inr ⟨rfl,_,(sI T2).symm,_,J7,f.kp,N9.kr⟩
 rintro _ _ W15 (⟨rfl,G4,rfl,V8,J8,f,N12⟩|⟨rfl,G5,rfl,V9,J9,f,N13⟩)
 ·refine eu (bl (am f rfl (Lk 4 (bO false)) ?_))
  cases sI F25
  exact⟨_,rfl,_,mL,N12.kr,rfl⟩
 refine jV (az (RR (Ye f 1 λ_ f=>wp_ret (am f rfl (Lk 4 (bO true)) ?_))))
 cases sI F25
 exact⟨_,rfl,_,mL,N13.kr,rfl⟩
def iw (n:Nat) (d0:TB0) (d1:TB0) (K1:Int):Option (Lp Int (Sum Unit Unit)):=
    bif(decide (K1<((d0.ca.length:Nat):Int))) then
     ((aB d0.ca K1).bind λX1=>
     (aB d1.ca K1).bind λX2=>
     (ij n X1 X2).bind λX3=>
     bif !X3 then
      (some (.br (.inl ())))
     else
      aL (inR .i64 (K1+1))<|
      some (.nx (K1+1)))
    else
     some (.br (.inr ()))
def iy (n:Nat) (d0:TB0) (d1:TB0) (K2:Int):Option (Lp Int (Sum Unit Unit)):=
    bif(decide (K2<((d0.cD.length:Nat):Int))) then
     ((aB d0.cD K2).bind λX4=>
     (aB d1.cD K2).bind λX5=>
     (lI n X4 X5).bind λX6=>
     bif !X6 then
      (some (.br (.inl ())))
     else
      aL (inR .i64 (K2+1))<|
      some (.nx (K2+1)))
    else
     some (.br (.inr ()))
def iz (n:Nat) (rec_ref13_Same:TB0→TB0→Option Bool) (d0:TB0) (d1:TB0) (K3:Int):Option (Lp Int (Sum Unit Unit)):=
    bif(decide (K3<((d0.iI.length:Nat):Int))) then
     ((aB d0.iI K3).bind λX7=>
     (aB d1.iI K3).bind λX8=>
     (eA n rec_ref13_Same X7 X8).bind λX9=>
     bif !X9 then
      (some (.br (.inl ())))
     else
      aL (inR .i64 (K3+1))<|
      some (.nx (K3+1)))
    else
     some (.br (.inr ()))
def iA (n:Nat) (d0:TB0) (d1:TB0) (K4:Int):Option (Lp Int (Sum Unit Unit)):=
    bif(decide (K4<((d0.ee.length:Nat):Int))) then
     ((aB d0.ee K4).bind λX10=>
     (aB d1.ee K4).bind λX11=>
     bif(!(decide (X10.av=X11.av))) then
      (some (.br (.inl ())))
     else
      (aB d0.ee K4).bind λX12=>
      (aB d1.ee K4).bind λX13=>
      bif(!(decide (X12.gp=X13.gp))) then
       (some (.br (.inl ())))
      else
       (aB d0.ee K4).bind λX14=>
       (aB d1.ee K4).bind λX15=>
       (dS n X14.fE X15.fE).bind λX16=>
       bif !X16 then
        (some (.br (.inl ())))
       else
        aL (inR .i64 (K4+1))<|
        some (.nx (K4+1)))
    else
     some (.br (.inr ()))
def ki (n:Nat) (rec_ref13_Same:TB0→TB0→Option Bool) (d0:TB0) (d1:TB0):Option Bool:=
 ((bif(!(decide (((d0.ca.length:Nat):Int)=((d1.ca.length:Nat):Int)))) then
  (some ((true)))
   else
    bif(!(decide (((d0.cD.length:Nat):Int)=((d1.cD.length:Nat):Int)))) then
     (some ((true)))
    else
     bif(!(decide (((d0.iI.length:Nat):Int)=((d1.iI.length:Nat):Int)))) then
      (some ((true)))
     else
      some ((!(decide (((d0.ee.length:Nat):Int)=((d1.ee.length:Nat):Int))))):Option Bool)).bind λG1=>
 bif G1 then
  (some ((false)))
 else
  (au (iw n d0 d1) n (0:Int)).bind λQ3=>
  (match Q3 with
  |.inl G2=>some ((false))
  |.inr G3=>(au (iy n d0 d1) n (0:Int)).bind λQ4=>
   (match Q4 with
   |.inl G4=>some ((false))
   |.inr G5=>(au (iz n rec_ref13_Same d0 d1) n (0:Int)).bind λQ5=>
    (match Q5 with
    |.inl G6=>some ((false))
    |.inr G7=>(au (iA n d0 d1) n (0:Int)).bind λQ6=>
     (match Q6 with
     |.inl G8=>some ((false))
     |.inr G9=>some ((true))))))
set_option maxRecDepth 20000 in
theorem rj (n:Nat) (rec_ref13_Same:TB0→TB0→Option Bool) (hrec_ref13_Same: ∀ (M:Mem) (c0:Lv) (d0:TB0) (h0:Rep M (bB d0) c0) (c1:Lv) (d1:TB0) (h1:Rep M (bB d1) c1) (r:Bool) (hF:rec_ref13_Same d0 d1=some r),Ok Tryz.prog M 13 [.agg c0.toArray,.agg c1.toArray] (λ_ v=>v=bO r)) (M:Mem) (c0:Lv) (d0:TB0) (h0:Rep M (bB d0) c0) (c1:Lv) (d1:TB0) (h1:Rep M (bB d1) c1) (r:Bool) (hF:ki n rec_ref13_Same d0 d1=some r):Ok Tryz.prog M 13 [.agg c0.toArray,.agg c1.toArray] (λ_ v=>v=bO r):=by
 unfold ki at hF
 intro M1 hM0 w0 H w p0
 replace h0:=Rep.mono hM0 _ _ h0
 replace h1:=Rep.mono hM0 _ _ h1
 obtain⟨Z1,P1,Z2,P2,Z3,P3,Z4,P4,rfl,B1,B2,B3,B4⟩:=TB0.opn h0
 obtain⟨Z5,P5,Z6,P6,Z7,P7,Z8,P8,rfl,B5,B6,B7,B8⟩:=TB0.opn h1
 refine Re 151 Tryz.func13 rfl λa0 f0=>RR (Y5 (cs:=(aTB0 d0 Z1 P1 Z2 P2 Z3 P3 Z4 P4)) (T:=41) f0 p0 λQ1 V1 W1 J1 R1 N1 _ f=>?_)
 have R2:=aU R1
 refine Y5 (cs:=(aTB0 d1 Z5 P5 Z6 P6 Z7 P7 Z8 P8)) (T:=41) f N1 λQ2 V2 W2 J2 R3 N2 _ f=>?_
 have R4:=aU R3
 refine Ye f 1 λ_ f=>ah (ah ?_)
 obtain⟨eF,cL,F1⟩:=bS hF
 refine aW (λa_27 W3=>∃G1,eF=G1∧∃V3,V2.le V3∧Frm 151 ((42,bO G1)::kpL [2,3] f.fr) a_27∧Hp w0 V3 (H) W3) ?_ ?_
 ·refine ay (Y f 1 λ_ f=>Y7 f N2 (fu R2) 0 rfl λ_ f=>Y f 2 λ_ f=>Y7 f N2 R4 0 rfl λ_ f=>Y f 3 λ_ f=>?_)
  rcases cE cL with⟨B9,F2⟩|⟨B9,F3⟩
  ·have f:=f.st 16 (cB B9)
   refine Ye f 26 λ_ f=>?_
   exact⟨_,(sI F2).symm,_,mL,f.kp,N2.kr⟩
  have f:=f.st 16 (cB B9)
  refine Y f 1 λ_ f=>Y7 f N2 (fu R2) 1 rfl λ_ f=>Y f 2 λ_ f=>Y7 f N2 R4 1 rfl λ_ f=>Y f 4 λ_ f=>?_
  rcases cE F3 with⟨B10,F4⟩|⟨B10,F5⟩
  ·have f:=f.st 25 (cB B10)
   refine Ye f 17 λ_ f=>?_
   exact⟨_,(sI F4).symm,_,mL,f.kp,N2.kr⟩
  have f:=f.st 25 (cB B10)
  refine Y f 1 λ_ f=>Y7 f N2 (fu R2) 2 rfl λ_ f=>Y f 2 λ_ f=>Y7 f N2 R4 2 rfl λ_ f=>Y f 4 λ_ f=>?_
  rcases cE F5 with⟨B11,F6⟩|⟨B11,F7⟩
  ·have f:=f.st 34 (cB B11)
   refine Ye f 8 λ_ f=>?_
   exact⟨_,(sI F6).symm,_,mL,f.kp,N2.kr⟩
  have f:=f.st 34 (cB B11)
  refine Y f 1 λ_ f=>Y7 f N2 (fu R2) 3 rfl λ_ f=>Y f 2 λ_ f=>Y7 f N2 R4 3 rfl λ_ f=>Ye f 3 λ_ f=>?_
  exact⟨_,(sI F7).symm,_,mL,f.kp,N2.kr⟩
 rintro a_27 W3 ⟨G1,eS,V3,J3,f,N3⟩
 subst eF
 refine az (RcF f F1 (λB12 F8=>?_) λB12 F9=>?_)
 ·refine RR (Ye f 1 λ_ f=>wp_ret (bl (am f rfl (Lk 4 (bO false)) ?_)))
  cases sI F8
  exact⟨_,rfl,_,mL,N3.kr,rfl⟩
 refine St (ah (RR (Ye f 1 λ_ f=>wp_block ?_)))
 obtain⟨Q3,ce,F10⟩:=bS F9
 refine wp_mono (Q:=λe a w=>(e=.ret∧(∃G2,Q3=.inl G2∧∃V5,V3.le V5∧Frm 151 [(4,bO false)] a∧Hp w0 V5 (H) w))∨(e=.exit 0∧(∃G3,Q3=.inr G3∧∃V6,V3.le V6∧Frm 151 (kpL [2,3] f.fr) a∧Hp w0 V6 (H) w))) (aZ (σ:=Int) (λx=>match x with|(I1,K1)=>(((5,iL K1)::kpL [2,3] f.fr),(H),λMM=>au (iw n d0 d1) I1 K1=some Q3)) (n,(0:Int)) (f.kp) N3.kr ce ?_) ?_
 ·rintro⟨I1,K1⟩ V4 _ W4 J4 gL f N4
  have ci:=gL
  obtain⟨I2,lT,rfl,bg,T1⟩:=aK ci
  unfold iw at bg
  refine ah (RR (Y f 2 λ_ f=>Y7 f N4 (fu R2) 0 rfl λ_ f=>Ye f 2 λ_ f=>RcF f bg (λB13 F11=>?_) λB13 F18=>?_))
  ·refine St (ah (wp_block (ah (iG N4 kr kr (Y2 default f 1 λ_ f=>gx f (fu R2) 0 rfl kr kr λ_ f=>Y2 default f 1 λ_ f=>?_)))))
   obtain⟨X1,l1,F12⟩:=bS F11
   obtain⟨C1,dW,jC,D1,R5⟩:=Sli.aM V4 B1 l1
   obtain⟨Z9,P9,Z10,P10,Z11,P11,rfl,B14,B15,B16⟩:=TD0.opn D1
   refine bD f kr (λ_ pq=>XI jC l1) λ_ f=>bD f kr (λ_ pq=>XK pq R5 0) λ_ f=>Y2 default f 1 λ_ f=>gx f (fu R4) 0 rfl kr kr λ_ f=>Y2 default f 1 λ_ f=>?_
   obtain⟨X2,l2,F13⟩:=bS F12
   obtain⟨C2,ie,ly,D2,R6⟩:=Sli.aM V4 B5 l2
   obtain⟨Z12,P12,Z13,P13,Z14,P14,rfl,B17,B18,B19⟩:=TD0.opn D2
   refine bD f kr (λ_ pq=>XI ly l2) λ_ f=>bD f kr (λ_ pq=>XK pq R6 0) λ_ f=>?_
   obtain⟨X3,l3,F14⟩:=bS F13
   refine ls f (pi n _ _ X1 D1.mo _ X2 D2.mo X3 l3) kr (λ_=>by kernel_rfl) λ_ f=>Y2 default f 1 λ_ f=>iS rfl ?_
   intro W6 N6
   refine az (RcF f F14 (λB20 F15=>?_) λB20 F16=>?_)
   ·refine RR (Ye f 1 λ_ f=>wp_ret (eu (bl (bl ?_))))
    cases sI F15
    exact .inl ⟨rfl,_,(sI T1).symm,_,J4,f.kp,N6.kr⟩
   refine wp_skip (ec (az (ay (Y f 1 λ_ f=>?_))))
   obtain⟨O1,F17⟩:=nS F16
   refine Y f 1 λ_ f=>?_
   have f:=f.st 49 (iW O1)
   refine Ye f 1 λ_ f=>?_
   cases sI F17
   exact⟨⟨_,_⟩,Nat.lt_succ_self _,_,J4,T1,f.kp,N6.kr⟩
  refine wp_exit (dJ (dJ ?_))
  cases sI F18
  exact .inr ⟨rfl,_,(sI T1).symm,_,J4,f.kp,N4.kr⟩
 rintro _ _ W9 (⟨rfl,G2,rfl,V5,J5,f,N7⟩|⟨rfl,G3,rfl,V6,J6,f,N8⟩)
 ·refine eu (bl (am f rfl (Lk 4 (bO false)) ?_))
  cases sI F10
  exact⟨_,rfl,_,mL,N7.kr,rfl⟩
 refine jV (az (ah (RR (Ye f 1 λ_ f=>wp_block ?_))))
 obtain⟨Q4,nI,F19⟩:=bS F10
 refine wp_mono (Q:=λe a w=>(e=.ret∧(∃G4,Q4=.inl G4∧∃V8,V6.le V8∧Frm 151 [(4,bO false)] a∧Hp w0 V8 (H) w))∨(e=.exit 2∧(∃G5,Q4=.inr G5∧∃V9,V6.le V9∧Frm 151 (kpL [2,3] f.fr) a∧Hp w0 V9 (H) w))) (aZ (σ:=Int) (λx=>match x with|(I3,K2)=>(((6,iL K2)::kpL [2,3] f.fr),(H),λMM=>au (iy n d0 d1) I3 K2=some Q4)) (n,(0:Int)) (f.kp) N8.kr nI ?_) ?_
 ·rintro⟨I3,K2⟩ V7 _ W10 J7 I_2 f N9
  have nv:=I_2
  obtain⟨I4,r_2,rfl,kM,T2⟩:=aK nv
  unfold iy at kM
  refine ah (RR (Y f 2 λ_ f=>Y7 f N9 (fu R2) 1 rfl λ_ f=>Ye f 2 λ_ f=>RcF f kM (λB21 F20=>?_) λB21 F27=>?_))
  ·refine St (ah (wp_block (ah (iG N9 kr kr (Y2 default f 1 λ_ f=>gx f (fu R2) 1 rfl kr kr λ_ f=>Y2 default f 1 λ_ f=>?_)))))
   obtain⟨X4,l4,F21⟩:=bS F20
   obtain⟨C3,lQ,qm,D3,R7⟩:=Sli.aM V7 B2 l4
   obtain⟨Z15,P15,Z16,P16,Z17,P17,rfl,B22,B23,B24⟩:=TH0.opn D3
   refine bD f kr (λ_ pq=>XI qm l4) λ_ f=>bD f kr (λ_ pq=>XK pq R7 0) λ_ f=>Y2 default f 1 λ_ f=>gx f (fu R4) 1 rfl kr kr λ_ f=>Y2 default f 1 λ_ f=>?_
   obtain⟨X5,l5,F22⟩:=bS F21
   obtain⟨C4,rJ,qn,D4,R8⟩:=Sli.aM V7 B6 l5
   obtain⟨Z18,P18,Z19,P19,Z20,P20,rfl,B25,B26,B27⟩:=TH0.opn D4
   refine bD f kr (λ_ pq=>XI qn l5) λ_ f=>bD f kr (λ_ pq=>XK pq R8 0) λ_ f=>?_
   obtain⟨X6,l6,F23⟩:=bS F22
   refine ls f (pZ n _ _ X4 D3.mo _ X5 D4.mo X6 l6) kr (λ_=>by kernel_rfl) λ_ f=>Y2 default f 1 λ_ f=>iS rfl ?_
   intro W12 N11
   refine az (RcF f F23 (λB28 F24=>?_) λB28 F25=>?_)
   ·refine RR (Ye f 1 λ_ f=>wp_ret (eu (bl (bl ?_))))
    cases sI F24
    exact .inl ⟨rfl,_,(sI T2).symm,_,J7,f.kp,N11.kr⟩
   refine wp_skip (ec (az (ay (Y f 1 λ_ f=>?_))))
   obtain⟨O2,F26⟩:=nS F25
   refine Y f 1 λ_ f=>?_
   have f:=f.st 68 (iW O2)
   refine Ye f 1 λ_ f=>?_
   cases sI F26
   exact⟨⟨_,_⟩,Nat.lt_succ_self _,_,J7,T2,f.kp,N11.kr⟩
  refine wp_exit (dJ (dJ ?_))
  cases sI F27
  exact .inr ⟨rfl,_,(sI T2).symm,_,J7,f.kp,N9.kr⟩
 rintro _ _ W15 (⟨rfl,G4,rfl,V8,J8,f,N12⟩|⟨rfl,G5,rfl,V9,J9,f,N13⟩)
 ·refine eu (bl (am f rfl (Lk 4 (bO false)) ?_))
  cases sI F19
  exact⟨_,rfl,_,mL,N12.kr,rfl⟩
 refine jV (az (ah (RR (Ye f 1 λ_ f=>wp_block ?_))))
 obtain⟨Q5,hL_3,F28⟩:=bS F19
 refine wp_mono (Q:=λe a w=>(e=.ret∧(∃G6,Q5=.inl G6∧∃V11,V9.le V11∧Frm 151 [(4,bO false)] a∧Hp w0 V11 (H) w))∨(e=.exit 4∧(∃G7,Q5=.inr G7∧∃V12,V9.le V12∧Frm 151 (kpL [2,3] f.fr) a∧Hp w0 V12 (H) w))) (aZ (σ:=Int) (λx=>match x with|(I5,K3)=>(((7,iL K3)::kpL [2,3] f.fr),(H),λMM=>au (iz n rec_ref13_Same d0 d1) I5 K3=some Q5)) (n,(0:Int)) (f.kp) N13.kr hL_3 ?_) ?_
 ·rintro⟨I5,K3⟩ V10 _ W16 J10 I_3 f N14
  have I_3L:=I_3
  obtain⟨I6,r_3,rfl,hs_3,T3⟩:=aK I_3L
  unfold iz at hs_3
  refine ah (RR (Y f 2 λ_ f=>Y7 f N14 (fu R2) 2 rfl λ_ f=>Ye f 2 λ_ f=>RcF f hs_3 (λB29 F29=>?_) λB29 F36=>?_))
  ·refine St (ah (wp_block (ah (iG N14 kr kr (Y2 default f 1 λ_ f=>gx f (fu R2) 2 rfl kr kr λ_ f=>Y2 default f 1 λ_ f=>?_)))))
   obtain⟨X7,l7,F30⟩:=bS F29
   obtain⟨C5,c_5,e_5,D5,R9⟩:=Sli.aM V10 B3 l7
   obtain⟨Z21,P21,Z22,P22,Z23,P23,rfl,B30,B31,B32⟩:=TA0.opn D5
   refine bD f kr (λ_ pq=>XI e_5 l7) λ_ f=>bD f kr (λ_ pq=>XK pq R9 0) λ_ f=>Y2 default f 1 λ_ f=>gx f (fu R4) 2 rfl kr kr λ_ f=>Y2 default f 1 λ_ f=>?_
   obtain⟨X8,l8,F31⟩:=bS F30
   obtain⟨C6,c_6,e_6,D6,R10⟩:=Sli.aM V10 B7 l8
   obtain⟨Z24,P24,Z25,P25,Z26,P26,rfl,B33,B34,B35⟩:=TA0.opn D6
   refine bD f kr (λ_ pq=>XI e_6 l8) λ_ f=>bD f kr (λ_ pq=>XK pq R10 0) λ_ f=>?_
   obtain⟨X9,l9,F32⟩:=bS F31
   refine ls f (mz n rec_ref13_Same hrec_ref13_Same _ _ X7 D5.mo _ X8 D6.mo X9 l9) kr (λ_=>by kernel_rfl) λ_ f=>Y2 default f 1 λ_ f=>iS rfl ?_
   intro W18 N16
   refine az (RcF f F32 (λB36 F33=>?_) λB36 F34=>?_)
   ·refine RR (Ye f 1 λ_ f=>wp_ret (eu (bl (bl ?_))))
    cases sI F33
    exact .inl ⟨rfl,_,(sI T3).symm,_,J10,f.kp,N16.kr⟩
   refine wp_skip (ec (az (ay (Y f 1 λ_ f=>?_))))
   obtain⟨O3,F35⟩:=nS F34
   refine Y f 1 λ_ f=>?_
   have f:=f.st 87 (iW O3)
   refine Ye f 1 λ_ f=>?_
   cases sI F35
   exact⟨⟨_,_⟩,Nat.lt_succ_self _,_,J10,T3,f.kp,N16.kr⟩
  refine wp_exit (dJ (dJ ?_))
  cases sI F36
  exact .inr ⟨rfl,_,(sI T3).symm,_,J10,f.kp,N14.kr⟩
 rintro _ _ W21 (⟨rfl,G6,rfl,V11,J11,f,N17⟩|⟨rfl,G7,rfl,V12,J12,f,N18⟩)
 ·refine eu (bl (am f rfl (Lk 4 (bO false)) ?_))
  cases sI F28
  exact⟨_,rfl,_,mL,N17.kr,rfl⟩
 refine jV (az (ah (RR (Ye f 1 λ_ f=>wp_block ?_))))
 obtain⟨Q6,hL_4,F37⟩:=bS F28
 refine wp_mono (Q:=λe a w=>(e=.ret∧(∃G8,Q6=.inl G8∧∃V14,V12.le V14∧Frm 151 [(4,bO false)] a∧Hp w0 V14 (H) w))∨(e=.exit 6∧(∃G9,Q6=.inr G9∧∃V15,V12.le V15∧Frm 151 [] a∧Hp w0 V15 (H) w))) (aZ (σ:=Int) (λx=>match x with|(I7,K4)=>(((8,iL K4)::kpL [2,3] f.fr),(H),λMM=>au (iA n d0 d1) I7 K4=some Q6)) (n,(0:Int)) (f.kp) N18.kr hL_4 ?_) ?_
 ·rintro⟨I7,K4⟩ V13 _ W22 J13 I_4 f N19
  have I_4L:=I_4
  obtain⟨I8,r_4,rfl,hs_4,T4⟩:=aK I_4L
  unfold iA at hs_4
  refine ah (RR (Y f 2 λ_ f=>Y7 f N19 (fu R2) 3 rfl λ_ f=>Ye f 2 λ_ f=>RcF f hs_4 (λB37 F38=>?_) λB37 F53=>?_))
  ·refine St (ah (wp_block (ah (iG N19 kr kr (Y2 default f 1 λ_ f=>gx f (fu R2) 3 rfl kr kr λ_ f=>Y2 default f 1 λ_ f=>?_)))))
   obtain⟨X10,l10,F39⟩:=bS F38
   obtain⟨C7,c_7,e_7,D7,R11⟩:=Sli.aM V13 B4 l10
   obtain⟨Z27,P27,rfl,B38⟩:=TC0.opn D7
   refine bD f kr (λ_ pq=>XI e_7 l10) λ_ f=>Y2 default f 1 λ_ f=>gx f R11 0 rfl kr kr λ_ f=>Y2 default f 1 λ_ f=>gx f (fu R4) 3 rfl kr kr λ_ f=>Y2 default f 1 λ_ f=>?_
   obtain⟨X11,l11,F40⟩:=bS F39
   obtain⟨C8,c_8,e_8,D8,R12⟩:=Sli.aM V13 B8 l11
   obtain⟨Z28,P28,rfl,B39⟩:=TC0.opn D8
   refine bD f kr (λ_ pq=>XI e_8 l11) λ_ f=>Y2 default f 1 λ_ f=>gx f R12 0 rfl kr kr λ_ f=>bD (v:=bO (!(decide (X10.av=X11.av)))) f kr (λ_ pq=>ep rfl (l:=X10.av) (m:=X11.av) kr kr) λ_ f=>Y2 default f 1 λ_ f=>?_
   rcases cE F40 with⟨B40,F41⟩|⟨B40,F42⟩
   ·have f:=f.st 120 (cB B40)
    refine Y2 default f 30 λ_ f=>iS rfl ?_
    intro W23 N20
    refine az (iT f kr kr (RR (Ye f 1 λ_ f=>wp_ret (eu (bl (bl ?_))))))
    cases sI F41
    exact .inl ⟨rfl,_,(sI T4).symm,_,J13,f.kp,N20.kr⟩
   have f:=f.st 120 (cB B40)
   refine Y2 default f 1 λ_ f=>gx f (fu R2) 3 rfl kr kr λ_ f=>Y2 default f 1 λ_ f=>?_
   obtain⟨X12,l12,F43⟩:=bS F42
   obtain⟨C9,c_9,e_9,D9,R13⟩:=Sli.aM V13 B4 l12
   obtain⟨Z29,P29,rfl,B41⟩:=TC0.opn D9
   refine bD f kr (λ_ pq=>XI e_9 l12) λ_ f=>Y2 default f 1 λ_ f=>gx f R13 1 rfl kr kr λ_ f=>Y2 default f 1 λ_ f=>gx f (fu R4) 3 rfl kr kr λ_ f=>Y2 default f 1 λ_ f=>?_
   obtain⟨X13,l13,F44⟩:=bS F43
   obtain⟨C10,c_10,e_10,D10,R14⟩:=Sli.aM V13 B8 l13
   obtain⟨Z30,P30,rfl,B42⟩:=TC0.opn D10
   refine bD f kr (λ_ pq=>XI e_10 l13) λ_ f=>Y2 default f 1 λ_ f=>gx f R14 1 rfl kr kr λ_ f=>bD (v:=bO (!(decide (X12.gp=X13.gp)))) f kr (λ_ pq=>ep rfl (l:=X12.gp) (m:=X13.gp) kr kr) λ_ f=>Y2 default f 2 λ_ f=>?_
   rcases cE F44 with⟨B43,F45⟩|⟨B43,F46⟩
   ·have f:=f.st 135 (cB B43)
    refine Y2 default f 15 λ_ f=>iS rfl ?_
    intro W24 N21
    refine az (iT f kr kr (RR (Ye f 1 λ_ f=>wp_ret (eu (bl (bl ?_))))))
    cases sI F45
    exact .inl ⟨rfl,_,(sI T4).symm,_,J13,f.kp,N21.kr⟩
   have f:=f.st 135 (cB B43)
   refine Y2 default f 1 λ_ f=>gx f (fu R2) 3 rfl kr kr λ_ f=>Y2 default f 1 λ_ f=>?_
   obtain⟨X14,l14,F47⟩:=bS F46
   obtain⟨C11,c_11,e_11,D11,R15⟩:=Sli.aM V13 B4 l14
   obtain⟨Z31,P31,rfl,B44⟩:=TC0.opn D11
   refine bD f kr (λ_ pq=>XI e_11 l14) λ_ f=>Y2 default f 1 λ_ f=>bD f kr (λ_ pq=>XK pq R15 2) λ_ f=>Y2 default f 1 λ_ f=>gx f (fu R4) 3 rfl kr kr λ_ f=>Y2 default f 1 λ_ f=>?_
   obtain⟨X15,l15,F48⟩:=bS F47
   obtain⟨C12,c_12,e_12,D12,R16⟩:=Sli.aM V13 B8 l15
   obtain⟨Z32,P32,rfl,B45⟩:=TC0.opn D12
   refine bD f kr (λ_ pq=>XI e_12 l15) λ_ f=>Y2 default f 1 λ_ f=>bD f kr (λ_ pq=>XK pq R16 2) λ_ f=>?_
   obtain⟨X16,l16,F49⟩:=bS F48
   refine ls f (iP n _ _ X14.fE (TG0.shutx B44) _ X15.fE (TG0.shutx B45) X16 l16) kr (λ_=>by kernel_rfl) λ_ f=>Y2 default f 2 λ_ f=>iS rfl ?_
   intro W26 N23
   refine az (RcF f F49 (λB46 F50=>?_) λB46 F51=>?_)
   ·refine RR (Ye f 1 λ_ f=>wp_ret (eu (bl (bl ?_))))
    cases sI F50
    exact .inl ⟨rfl,_,(sI T4).symm,_,J13,f.kp,N23.kr⟩
   refine wp_skip (ec (az (ay (Y f 1 λ_ f=>?_))))
   obtain⟨O4,F52⟩:=nS F51
   refine Y f 1 λ_ f=>?_
   have f:=f.st 106 (iW O4)
   refine Ye f 1 λ_ f=>?_
   cases sI F52
   exact⟨⟨_,_⟩,Nat.lt_succ_self _,_,J13,T4,f.kp,N23.kr⟩
  refine wp_exit (dJ (dJ ?_))
  cases sI F53
  exact .inr ⟨rfl,_,(sI T4).symm,_,J13,f.kp,N19.kr⟩
 rintro _ _ W29 (⟨rfl,G8,rfl,V14,J14,f,N24⟩|⟨rfl,G9,rfl,V15,J15,f,N25⟩)
 ·refine eu (bl (am f rfl (Lk 4 (bO false)) ?_))
  cases sI F37
  exact⟨_,rfl,_,mL,N24.kr,rfl⟩
 refine jV (az (RR (Ye f 1 λ_ f=>wp_ret (am f rfl (Lk 4 (bO true)) ?_))))
 cases sI F37
 exact⟨_,rfl,_,mL,N25.kr,rfl⟩
def gF (n:Nat):Nat→TB0→TB0→Option Bool
 |0=>λ_ _=>none
 |k+1=>ki n (gF n k)
def mZ (n:Nat) (d0:TB0) (d1:TB0):Option Bool:=gF n n d0 d1
theorem sY (n:Nat) (M:Mem) (c0:Lv) (d0:TB0) (h0:Rep M (bB d0) c0) (c1:Lv) (d1:TB0) (h1:Rep M (bB d1) c1) (r:Bool) (hF:mZ n d0 d1=some r):Ok Tryz.prog M 13 [.agg c0.toArray,.agg c1.toArray] (λ_ v=>v=bO r):=by
 have key: ∀ (k:Nat) (M:Mem) (c0:Lv) (d0:TB0) (h0:Rep M (bB d0) c0) (c1:Lv) (d1:TB0) (h1:Rep M (bB d1) c1) (r:Bool) (hF:gF n k d0 d1=some r),Ok Tryz.prog M 13 [.agg c0.toArray,.agg c1.toArray] (λ_ v=>v=bO r):=by
  intro k
  induction k with
  |zero=>intro M c0 d0 h0 c1 d1 h1 r hF;simp[gF] at hF
  |succ k ih=>intro M c0 d0 h0 c1 d1 h1 r hF;exact rj n (gF n k) ih M c0 d0 h0 c1 d1 h1 r hF
 exact key n M c0 d0 h0 c1 d1 h1 r hF
def iN (n:Nat) (d0:TE0):Option Bool:=
 (jY n d0).bind λX1=>
 bif X1 then
  ((kN n).bind λX2=>
  some ((X2)))
 else
  (kT n d0).bind λX3=>
  (mY n d0).bind λX4=>
  (mZ n X3.1 X4.1).bind λX5=>
  bif X5 then
   (bif(decide (X3.2.1=X4.2.1)) then
    (bif(decide (X3.2.2=X4.2.2)) then
     ((kN n).bind λX6=>
     some ((X6)))
    else
     some ((false)))
   else
    some ((false)))
  else
   some ((false))
set_option maxRecDepth 20000 in
theorem nM (n:Nat) (M:Mem) (hG:GL M) (c0:Lv) (d0:TE0) (h0:Rep M (ai d0) c0) (r:Bool) (hF:iN n d0=some r):Ok Tryz.prog M 4 [.agg c0.toArray] (λ_ v=>v=bO r):=by
 unfold iN at hF
 intro M1 hM0 w0 H w p0
 replace hG:=GL.mono hM0 hG
 replace h0:=Rep.mono hM0 _ _ h0
 obtain⟨Z1,P1,Z2,P2,rfl,B1,B2⟩:=TE0.opn h0
 refine Re 40 Tryz.func4 rfl λa0 f0=>RR (Y5 (cs:=(aTE0 d0 Z1 P1 Z2 P2)) (T:=26) f0 p0 λQ1 V1 W1 J1 R1 N1 _ f=>?_)
 have R2:=aU R1
 refine Ye f 1 λ_ f=>ah (RR (Z f (XK N1 R2 0) λ_ f=>?_))
 obtain⟨X1,l1,F1⟩:=bS hF
 refine Y9 f N1 (sr n _ _ d0 h0.mo X1 l1) λW2 N2 _ f=>eT (RcF f F1 (λB3 F2=>?_) λB3 F4=>?_)
 ·refine RR ?_
  obtain⟨X2,l2,F3⟩:=bS F2
  refine Y9 f N2 (nN n _ hG.mo X2 l2) λW3 N3 _ f=>Ye f 1 λ_ f=>wp_ret (bl (am f rfl (Lk 2 (bO X2)) ?_))
  cases sI F3
  exact⟨_,rfl,_,J1,N3.kr,rfl⟩
 refine St (RR (Z f (XK N2 R2 0) λ_ f=>?_))
 obtain⟨X3,l3,F5⟩:=bS F4
 refine Y8 f N2 (nX n _ hG.mo _ d0 h0.mo X3 l3) λ_ V2 W4 J2 N4 ef _ f=>?_
 obtain⟨dW,rfl,D1⟩:=ef
 obtain⟨Z3,P3,Z4,P4,Z5,P5,Z6,P6,rfl,B4,B5,B6,B7⟩:=TB0.opn D1
 refine Y f 4 λ_ f=>Y4 f N4 (.cells #[Sn,Sn,Sn,Sn] 41 (0,0)) λQ2 W5 N5 _ f=>Wu f N5 0 0 (lTB0 X3.1 Z3 P3 Z4 P4 Z5 P5 Z6 P6) λW6 N6 _ f=>Ye f 2 λ_ f=>RR (Z f (XK N6 R2 0) λ_ f=>?_)
 obtain⟨X4,l4,F6⟩:=bS F5
 refine Y8 f N6 (sX n _ _ d0 h0.mo X4 l4) λ_ V3 W7 J3 N7 iK _ f=>?_
 obtain⟨ie,rfl,D2⟩:=iK
 obtain⟨Z7,P7,Z8,P8,Z9,P9,Z10,P10,rfl,B8,B9,B10,B11⟩:=TB0.opn D2
 refine Y f 4 λ_ f=>Y4 f N7 (.cells #[Sn,Sn,Sn,Sn] 41 (0,0)) λQ3 W8 N8 _ f=>Wu f N8 0 0 (lTB0 X4.1 Z7 P7 Z8 P8 Z9 P9 Z10 P10) λW9 N9 _ f=>Ye f 2 λ_ f=>RR (Z f (XO N9 1) λ_ f=>Z f (XO N9 0) λ_ f=>?_)
 obtain⟨X5,l5,F7⟩:=bS F6
 refine Y9 f N9 (sY n _ _ X3.1 D1.mo _ X4.1 D2.mo X5 l5) λW10 N10 _ f=>Y f 1 λ_ f=>?_
 rcases cE F7 with⟨B12,F8⟩|⟨B12,F14⟩
 ·have f:=f.st 27 (cB B12)
  refine Y f 2 λ_ f=>Z f (Y11 rfl (l:=X3.2.1) (m:=X4.2.1)) λ_ f=>Y f 2 λ_ f=>?_
  rcases cE F8 with⟨B13,F9⟩|⟨B13,F13⟩
  ·have f:=f.st 32 (cB B13)
   refine Y f 5 λ_ f=>?_
   rcases cE F9 with⟨B14,F10⟩|⟨B14,F12⟩
   ·have f:=f.st 37 (cB B14)
    obtain⟨X6,l6,F11⟩:=bS F10
    refine Y9 f N10 (nN n _ hG.mo X6 l6) λW11 N11 _ f=>Ye f 2 λ_ f=>wp_ret (am f rfl (Lk 2 (bO X6)) ?_)
    cases sI F11
    exact⟨_,rfl,_,mL,(N11.dropN 2).kr,rfl⟩
   have f:=f.st 37 (cB B14)
   refine Ye f 3 λ_ f=>wp_ret (am f rfl (Lk 2 (bO false)) ?_)
   cases sI F12
   exact⟨_,rfl,_,mL,(N10.dropN 2).kr,rfl⟩
  have f:=f.st 32 (cB B13)
  refine Ye f 8 λ_ f=>wp_ret (am f rfl (Lk 2 (bO false)) ?_)
  cases sI F13
  exact⟨_,rfl,_,mL,(N10.dropN 2).kr,rfl⟩
 have f:=f.st 27 (cB B12)
 refine Ye f 13 λ_ f=>wp_ret (am f rfl (Lk 2 (bO false)) ?_)
 cases sI F14
 exact⟨_,rfl,_,mL,(N10.dropN 2).kr,rfl⟩
theorem sameV {n:Nat} (hn:100000≤n): ∀ (k d:Nat) (v:TE0),d≤k→Small d v→gE n k v v=some true
 |_,0,v,_,h=>h.elim
 |0,d+1,v,h,_=>absurd h (by omega)
 |k+1,d+1,v,hk,hs=>by
  obtain⟨h1,h2,h3,h4,h5⟩:=hs
  show kg n (gE n k) v v=_
  unfold kg
  rw[dT rfl,nT,cF,beq_self_eq_true,nT,cF,dT rfl,nT,cF,dT rfl,nT,cF,dT rfl,nT,cF,dT rfl,nT,bnd,cF]
  have a1:=gr (step:=ir n v v) (n:=n) (λq=>((q:Nat):Int)) v.af.length (.inr ()) (λq hq=>by
   have hg:aB v.af (q:Int)=some v.af[q]:=by simp[aB,hq]
   unfold ir
   rw[dT (by omega),cT,hg,bnd,bnd,dT rfl,nT,cF,aI (by omega) (by omega)]
   rfl) (by
   unfold ir
   rw[dF (by omega),cF]) (by omega)
  have a2:=gr (step:=iu n (gE n k) v v) (n:=n) (λq=>((q:Nat):Int)) v.ac.length (.inr ()) (λq hq=>by
   have hg:aB v.ac (q:Int)=some v.ac[q]:=by simp[aB,hq]
   unfold iu
   rw[dT (by omega),cT,hg,bnd,bnd,sameV hn k d _ (by omega) (h5 _ (List.getElem_mem hq)),bnd,nT,cF,aI (by omega) (by omega)]
   rfl) (by
   unfold iu
   rw[dF (by omega),cF]) (by omega)
  have e0: ((0:Nat):Int)=0:=rfl
  rw[e0] at a1 a2
  rw[a1,bnd]
  dsimp only
  rw[a2,bnd]
theorem sameP {n:Nat} (hn:100000≤n) {x:TD0} (h:GPa x):ij n x x=some true:=by
 obtain⟨h1,h2,h3⟩:=h
 have hv: ∀v,Small 30 v→mS n v v=some true:=λv hv=>sameV hn n 30 v (by omega) hv
 unfold ij
 rw[dT rfl,nT,cF,beq_self_eq_true,nT,cF,beq_self_eq_true,nT,cF,hv _ h1,bnd,nT,cF,dT rfl,nT,bnd,cF]
 have a1:=gr (step:=ei n x x) (n:=n) (λq=>((q:Nat):Int)) x.dO.length (.inr ()) (λq hq=>by
  have hg:aB x.dO (q:Int)=some x.dO[q]:=by simp[aB,hq]
  unfold ei
  rw[dT (by omega),cT,hg,bnd,bnd,hv _ (h3 _ (List.getElem_mem hq)),bnd,nT,cF,aI (by omega) (by omega)]
  rfl) (by
  unfold ei
  rw[dF (by omega),cF]) (by omega)
 have e0: ((0:Nat):Int)=0:=rfl
 rw[e0] at a1
 rw[a1,bnd]
theorem sameX {n:Nat} (hn:100000≤n) {x:TG0} (h:GX 31 x):dS n x x=some true:=same_self (d:=30) hn (by omega) h
theorem sameC {n:Nat} (hn:100000≤n): ∀ (k d:Nat) (c:TH0),d≤k→GC d c→dC n k c c=some true
 |_,0,c,_,h=>h.elim
 |0,d+1,c,h,_=>absurd h (by omega)
 |k+1,d+1,c,hk,hg=>by
  obtain⟨h1,h2,h3,h4⟩:=hg
  show gX n (dC n k) c c=_
  unfold gX
  rw[dT rfl,nT,cF,dT rfl,nT,cF,dT rfl,nT,cF,sameX hn h2,bnd,nT,cF,sameX hn h3,bnd,nT,bnd,cF]
  have a1:=gr (step:=eI n (dC n k) c c) (n:=n) (λq=>((q:Nat):Int)) c.fL.length (.inr ()) (λq hq=>by
   have hg:aB c.fL (q:Int)=some c.fL[q]:=by simp[aB,hq]
   unfold eI
   rw[dT (by omega),cT,hg,bnd,bnd,sameC hn k d _ (by omega) (h4 _ (List.getElem_mem hq)),bnd,nT,cF,aI (by omega) (by omega)]
   rfl) (by
   unfold eI
   rw[dF (by omega),cF]) (by omega)
  have e0: ((0:Nat):Int)=0:=rfl
  rw[e0] at a1
  rw[a1,bnd]
theorem samePr {n:Nat} (hn:100000≤n) {l:List TF0} (h:GP l):ik n l l=some true:=by
 obtain⟨h1,h2⟩:=h
 unfold ik
 rw[dT rfl,nT,cF]
 have a1:=gr (step:=ej n l l) (n:=n) (λq=>((q:Nat):Int)) l.length (.inr ()) (λq hq=>by
  have hg:aB l (q:Int)=some l[q]:=by simp[aB,hq]
  unfold ej
  rw[dT (by omega),cT,hg,bnd,bnd,dT rfl,nT,cF,bnd,bnd,sameX hn (h2 _ (List.getElem_mem hq)),bnd,nT,cF,aI (by omega) (by omega)]
  rfl) (by
  unfold ej
  rw[dF (by omega),cF]) (by omega)
 have e0: ((0:Nat):Int)=0:=rfl
 rw[e0] at a1
 rw[a1,bnd]
theorem sameR {n:Nat} (hn:100000≤n) {rc:TB0→TB0→Option Bool} {G:TB0→Prop} (hr: ∀u,G u→rc u u=some true) {x:TA0} (h:GRs G x):eA n rc x x=some true:=by
 obtain⟨h1,h2,h3,h4⟩:=h
 unfold eA
 rw[dT rfl,nT,cF,dT rfl,nT,cF,dT rfl,nT,cF,beq_self_eq_true,nT,cF,dT rfl,nT,cF,dT rfl,nT,cF,samePr hn h2,bnd,nT,bnd,cF]
 have a1:=gr (step:=cP n x x) (n:=n) (λq=>((q:Nat):Int)) x.df.length (.inr ()) (λq hq=>by
  have hg:aB x.df (q:Int)=some x.df[q]:=by simp[aB,hq]
  unfold cP
  rw[dT (by omega),cT,hg,bnd,bnd,dT rfl,nT,cF,aI (by omega) (by omega)]
  rfl) (by
  unfold cP
  rw[dF (by omega),cF]) (by omega)
 have a2:=gr (step:=cQ n rc x x) (n:=n) (λq=>((q:Nat):Int)) x.gq.length (.inr ()) (λq hq=>by
  have hg:aB x.gq (q:Int)=some x.gq[q]:=by simp[aB,hq]
  unfold cQ
  rw[dT (by omega),cT,hg,bnd,bnd,hr _ (h4 _ (List.getElem_mem hq)),bnd,nT,cF,aI (by omega) (by omega)]
  rfl) (by
  unfold cQ
  rw[dF (by omega),cF]) (by omega)
 have e0: ((0:Nat):Int)=0:=rfl
 rw[e0] at a1 a2
 rw[a1,bnd]
 dsimp only
 rw[a2,bnd]
theorem sameT {n:Nat} (hn:100000≤n): ∀ (k j:Nat) (t:TB0),j≤k→GT j t→gF n k t t=some true
 |_,0,t,_,h=>h.elim
 |0,j+1,t,h,_=>absurd h (by omega)
 |k+1,j+1,t,hk,hg=>by
  obtain⟨⟨p1,p2⟩,⟨c1,c2⟩,⟨r1,r2⟩,o1,o2⟩:=hg
  show ki n (gF n k) t t=_
  unfold ki
  rw[dT rfl,nT,cF,dT rfl,nT,cF,dT rfl,nT,cF,dT rfl,nT,bnd,cF]
  have a1:=gr (step:=iw n t t) (n:=n) (λq=>((q:Nat):Int)) t.ca.length (.inr ()) (λq hq=>by
   have hg:aB t.ca (q:Int)=some t.ca[q]:=by simp[aB,hq]
   unfold iw
   rw[dT (by omega),cT,hg,bnd,bnd,sameP hn (p2 _ (List.getElem_mem hq)),bnd,nT,cF,aI (by omega) (by omega)]
   rfl) (by
   unfold iw
   rw[dF (by omega),cF]) (by omega)
  have a2:=gr (step:=iy n t t) (n:=n) (λq=>((q:Nat):Int)) t.cD.length (.inr ()) (λq hq=>by
   have hg:aB t.cD (q:Int)=some t.cD[q]:=by simp[aB,hq]
   have hc:lI n t.cD[q] t.cD[q]=some true:=sameC hn n 31 _ (by omega) (c2 _ (List.getElem_mem hq))
   unfold iy
   rw[dT (by omega),cT,hg,bnd,bnd,hc,bnd,nT,cF,aI (by omega) (by omega)]
   rfl) (by
   unfold iy
   rw[dF (by omega),cF]) (by omega)
  have a3:=gr (step:=iz n (gF n k) t t) (n:=n) (λq=>((q:Nat):Int)) t.iI.length (.inr ()) (λq hq=>by
   have hg:aB t.iI (q:Int)=some t.iI[q]:=by simp[aB,hq]
   unfold iz
   rw[dT (by omega),cT,hg,bnd,bnd,sameR hn (λu hu=>sameT hn k j u (by omega) hu) (r2 _ (List.getElem_mem hq)),bnd,nT,cF,aI (by omega) (by omega)]
   rfl) (by
   unfold iz
   rw[dF (by omega),cF]) (by omega)
  have a4:=gr (step:=iA n t t) (n:=n) (λq=>((q:Nat):Int)) t.ee.length (.inr ()) (λq hq=>by
   have hg:aB t.ee (q:Int)=some t.ee[q]:=by simp[aB,hq]
   unfold iA
   rw[dT (by omega),cT,hg,bnd,bnd,dT rfl,nT,cF,bnd,bnd,dT rfl,nT,cF,bnd,bnd,sameX hn (o2 _ (List.getElem_mem hq)),bnd,nT,cF,aI (by omega) (by omega)]
   rfl) (by
   unfold iA
   rw[dF (by omega),cF]) (by omega)
  have e0: ((0:Nat):Int)=0:=rfl
  rw[e0] at a1 a2 a3 a4
  rw[a1,bnd]
  dsimp only
  rw[a2,bnd]
  dsimp only
  rw[a3,bnd]
  dsimp only
  rw[a4,bnd]
theorem wakes13r:kN 100000=some true:=by kernel_rfl
theorem reads_law (v:TE0):iN 100000 v=some true:=by
 unfold iN
 obtain⟨g,hg,hf⟩:=great_fine (n:=100000) (by omega) v
 rw[hg,bnd]
 cases g with
 |true=>rw[cT,wakes13r,bnd]
 |false=>
  obtain⟨hfine,hs,_⟩:=hf rfl
  have hz:mZ 100000 ra ra=some true:=sameT (by omega) 100000 1 ra (by omega) ⟨⟨Nat.zero_le _,λx hx=>(by cases hx)⟩,⟨Nat.zero_le _,λx hx=>(by cases hx)⟩,⟨Nat.zero_le _,λx hx=>(by cases hx)⟩,Nat.zero_le _,λx hx=>(by cases hx)⟩
  rw[cF]
  unfold kT mY
  rw[check_run (by omega) hfine,tj (by omega) hfine,bnd,bnd]
  cases hc:decide (checkV v=0) with
  |false=>
   rw[nF,cT,cT,bnd,bnd]
   dsimp only
   rw[hz,bnd,cT,dT rfl,cT,dT rfl,cT,wakes13r,bnd]
  |true=>
   have hc':=of_decide_eq_true hc
   have hok:=checkV_ok hc'
   rw[nT,cF,cF]
   unfold lg iM
   obtain⟨r,hr,hd,hq⟩:=oK (n:=100000) (by omega) 100000 0 30 v [] [] (by omega) (by omega) (by omega) ⟨hs,hok.1,by omega,by simp,hok.2.1,hok.2.2⟩
   rw[hr,bnd]
   cases r with
   |inl p=>
    obtain⟨hp,j,hj⟩:=hd
    rw[hj,bnd,bnd]
    dsimp only
    rw[dF hp,nF,cT,bnd]
    dsimp only
    rw[hz,bnd,cT,dT rfl,cT,dT rfl,cT,wakes13r,bnd]
   |inr t=>
    have hj:aG 100000 100000 0 [] v [] 0=some (t,0,[]):=hd
    have ht:mZ 100000 t t=some true:=sameT (by omega) 100000 100000 t (Nat.le_refl _) (hq t rfl)
    rw[hj,bnd,bnd]
    dsimp only
    rw[dT rfl,nT,cF,bnd]
    dsimp only
    rw[ht,bnd,cT,dT rfl,cT,dT rfl,cT,wakes13r,bnd]
end Go.Proofs.YtkopljikappieaaGreatDoor
end
section
namespace Go.Vc
open Go
mutual
def dsz:Dat→Nat
 |.int _ _=>1
 |.bool _=>1
 |.str l=>l.length+1
 |.list _ ds=>dszs ds+1
 |.struct ds=>dszs ds+1
def dszs:List Dat→Nat
 |[]=>0
 |d::ds=>dsz d+dszs ds
end
theorem dszs_app: ∀ (a b:List Dat),dszs (a++b)=dszs a+dszs b
 |[],b=>by simp[dszs]
 |d::a,b=>by simp only[List.cons_append,dszs,dszs_app a b];omega
theorem le_sum: ∀ {l:List Nat} {x:Nat},x∈l→x≤l.sum
 |y::l,x,h=>by
  rcases List.mem_cons.1 h with rfl|h
  ·simp
  have:=le_sum h;simp only[List.sum_cons];omega
section
variable {H:Type}
structure BulkOk (B:DataW H→Nat):Prop where
 one: ∀d,1≤B d
 str: ∀l,B (.lit (.string l))=l.length+1
 slice: ∀e s,(e.map B).sum+1≤B (.slice e s)
 agg: ∀e,(e.map B).sum+1≤B (.agg e)
variable {enc:TypeId×Value→H} {P:Program} {w:World} {t:TypeId} {α:Type} {f:α→Dat} {m:Nat} {B:DataW H→Nat}
def OpnAt (enc:TypeId×Value→H) (P:Program) (w:World) (t:TypeId) {α:Type} (f:α→Dat) (B:DataW H→Nat) (m:Nat):Prop:=
 ∀cs x,DataW.trod enc P w 0 (λ_=>true) true m t cs=some x→∃a,Rep (Mem.of w) (f a) cs∧Vld (f a)∧dsz (f a)≤B x.1
theorem OpnAt.zero:OpnAt enc P w t f B 0:=λcs x h=>by simp[DataW.trod] at h
theorem opa_int {k:IntKind} (hB:BulkOk B) (ht:P.underlying t=some (.int k)):OpnAt enc P w t (Dat.int k) B m:=λcs x h=>by
 obtain⟨a,rfl,_,hw⟩:=DataW.trod_int ht h
 exact⟨a,rfl,hw,hB.one _⟩
theorem opa_bool (hB:BulkOk B) (ht:P.underlying t=some .bool):OpnAt enc P w t Dat.bool B m:=λcs x h=>by
 obtain⟨a,rfl,_⟩:=DataW.trod_bool ht h
 exact⟨a,rfl,trivial,hB.one _⟩
theorem opa_str (hB:BulkOk B) (ht:P.underlying t=some .string):OpnAt enc P w t Dat.str B m:=λcs x h=>by
 obtain⟨s,rfl,hx,hw⟩:=DataW.trod_string ht h
 refine⟨s.data.toList,(by show [Value.string s]=_;rw[S_eta]),by show s.data.toList.length≤maxLen;simpa using hw,?_⟩
 rw[hx]
 show s.data.toList.length+1≤B (.lit (.string s.data.toList))
 rw[hB.str]
 exact Nat.le_refl _
theorem opa_slice {e:TypeId} {sz:Nat} (hB:BulkOk B) (ht:P.underlying t=some (.slice e)) (hsz:P.cellsOf e=sz) (h:OpnAt enc P w e f B m):OpnAt enc P w t (eL sz f) B (m+1):=λcs x hx=>by
 rcases DataW.trod_slice ht hx with⟨rfl,hx⟩|⟨ad,len,cap,elems,rest,n',hn',rfl,hxe,_,hlc,hcm,hel,hat,_⟩
 ·refine⟨[],Sli.rep (Sli.nil (sz:=sz) (f:=f)),by simp[Vld,eL,VldAll],?_⟩
  have:=hB.one x.1
  simpa [eL,dsz,dszs] using this
 obtain rfl:n'=m:=by omega
 have key: ∀k,k≤len→∃xs:List α,xs.length=k∧RepArr (Mem.of w) sz (xs.map f) ad∧(∀x∈xs,Vld (f x))∧dszs (xs.map f)≤((elems.take k).map λx=>B x.1).sum:=by
  intro k
  induction k with
  |zero=>intro _;exact⟨[],rfl,trivial,λx hx=>(by cases hx),by simp[dszs]⟩
  |succ k ih=>
   intro hk
   obtain⟨xs,h1,h2,h3,h3b⟩:=ih (by omega)
   have hk':k<elems.length:=by omega
   have:=hat k (by omega)
   rw[List.getElem?_eq_getElem hk'] at this
   obtain⟨cs',g1,g2⟩:=Option.bind_eq_some_iff.1 this
   obtain⟨a,g3,g4,g4b⟩:=h cs' _ g2
   obtain⟨g5,g6⟩:=cells_of g1
   rw[hsz] at g5 g6
   refine⟨xs++[a],by simp[h1],?_,λx hx=>?_,?_⟩
   ·rw[List.map_append]
    have app: ∀ (ds:List Dat) (ad:Addr),RepArr (Mem.of w) sz ds ad→RepArr (Mem.of w) sz [f a] (ad.add (ds.length*sz))→RepArr (Mem.of w) sz (ds++[f a]) ad:=by
     intro ds
     induction ds with
     |nil=>intro ad _ hh;simpa [Addr.add] using hh
     |cons d ds ih=>
      intro ad h1 h2
      refine⟨h1.1,ih _ h1.2 ?_⟩
      rw[hT]
      rw[List.length_cons,show(ds.length+1)*sz=sz+ds.length*sz by rw[Nat.add_mul];omega] at h2
      exact h2
    refine app _ _ h2 ⟨⟨cs',g5,g3,?_⟩,trivial⟩
    rw[List.length_map,h1]
    exact g6
   ·rcases List.mem_append.1 hx with hx|hx
    ·exact h3 x hx
    simp at hx;subst hx;exact g4
   rw[List.map_append,dszs_app,List.take_add_one,List.getElem?_eq_getElem hk',List.map_append,List.sum_append]
   simp only[List.map_cons,List.map_nil,dszs,Option.toList_some,List.sum_cons,List.sum_nil]
   omega
 obtain⟨xs,h1,h2,h3,h3b⟩:=key len (Nat.le_refl _)
 subst h1
 refine⟨xs,Sli.rep ⟨hlc,λe=>(by cases e),.inr ⟨ad,rfl,h2⟩⟩,?_,?_⟩
 ·refine⟨by rw[List.length_map];omega,VldAll.mk λd hd=>?_⟩
  obtain⟨x,hx,rfl⟩:=List.mem_map.1 hd
  exact h3 x hx
 rw[hxe]
 show dszs (xs.map f)+1≤_
 have:=hB.slice (elems.map (·.1)) (rest.map (·.1))
 rw[←hel,List.take_length] at h3b
 rw[List.map_map] at this
 have e: (elems.map (B ∘ λx=>x.1))=elems.map λx=>B x.1:=rfl
 rw[e] at this
 show _≤B (.slice (elems.map (·.1)) (rest.map (·.1)))
 omega
theorem sg {e:TypeId} {sz:Nat} (hB:BulkOk B) (ht:P.underlying t=some (.slice e)) (hsz:P.cellsOf e=sz) (h: ∀k,k<m→OpnAt enc P w e f B k):OpnAt enc P w t (eL sz f) B m:=by
 cases m with
 |zero=>exact OpnAt.zero
 |succ m=>exact opa_slice hB ht hsz (h m (Nat.lt_succ_self m))
theorem OpnAt.arg (h: ∀n,OpnAt enc P w t f B n) {v:Value} {d:DataW H} {ps:List MemPlace} (ht:DataW.Trod enc P w 0 (λ_=>true) true t v d ps): ∃a,Rep (Mem.of w) (f a) v.cells.toList∧Vld (f a)∧dsz (f a)≤B d:=by
 obtain⟨fuel,hf⟩:=ht
 exact h fuel _ _ hf
theorem OpnAt.struct_arg (h: ∀n,OpnAt enc P w t f B n) {v:Value} {d:DataW H} {ps:List MemPlace} (hv: ∃cs:Array Value,v=.agg cs) (ht:DataW.Trod enc P w 0 (λ_=>true) true t v d ps):
 ∃ (c:Lv) (a:α),v=.agg c.toArray∧Rep (Mem.of w) (f a) c∧Vld (f a)∧dsz (f a)≤B d:=by
 obtain⟨cs,rfl⟩:=hv
 obtain⟨a,h1,h2⟩:=OpnAt.arg h ht
 exact⟨cs.toList,a,by simp,h1,h2⟩
end
end Go.Vc
end
section
namespace Go.Proofs.YtkopljikappieaaGreatDoor
open Go Go.Vc Go.RowKit
theorem opa_TE0 {H:Type} {enc:TypeId×Value→H} {w:World} {B:DataW H→Nat} (hB:BulkOk B): ∀m,OpnAt enc Tryz.prog w 26 ai B m:=by
 intro m
 induction m using Nat.strongRecOn with
 |ind m ih=>
 intro cs x h
 obtain⟨xs,n,rfl,rfl,hlen,hxl,hf⟩:=DataW.trod_struct Tryz.underlying26 h
 have hct:Tryz.prog.cellsOf 26=6:=by kernel_rfl
 rw[hct] at hlen
 obtain⟨x0,x1,x2,x3,x4,x5,rfl⟩: ∃x0 x1 x2 x3 x4 x5,xs=[x0,x1,x2,x3,x4,x5]:=by
  match xs,hxl with
  |[x0,x1,x2,x3,x4,x5],_=>exact⟨x0,x1,x2,x3,x4,x5,rfl⟩
 have f0:DataW.trod enc Tryz.prog w 0 (λ_=>true) true n 22 ((cs.drop 0).take (Tryz.prog.cellsOf 22))=some x0:=hf 0 _ rfl
 rw[show Tryz.prog.cellsOf 22=1 by kernel_rfl] at f0
 obtain⟨a0,r0,v0,b0⟩:=(λ_=>opa_int hB Tryz.underlying22) n _ _ f0
 have f1:DataW.trod enc Tryz.prog w 0 (λ_=>true) true n 4 ((cs.drop 1).take (Tryz.prog.cellsOf 4))=some x1:=hf 1 _ rfl
 rw[show Tryz.prog.cellsOf 4=1 by kernel_rfl] at f1
 obtain⟨a1,r1,v1,b1⟩:=(λ_=>opa_bool hB Tryz.underlying4) n _ _ f1
 have f2:DataW.trod enc Tryz.prog w 0 (λ_=>true) true n 3 ((cs.drop 2).take (Tryz.prog.cellsOf 3))=some x2:=hf 2 _ rfl
 rw[show Tryz.prog.cellsOf 3=1 by kernel_rfl] at f2
 obtain⟨a2,r2,v2,b2⟩:=(λ_=>opa_int hB Tryz.underlying3) n _ _ f2
 have f3:DataW.trod enc Tryz.prog w 0 (λ_=>true) true n 9 ((cs.drop 3).take (Tryz.prog.cellsOf 9))=some x3:=hf 3 _ rfl
 rw[show Tryz.prog.cellsOf 9=1 by kernel_rfl] at f3
 obtain⟨a3,r3,v3,b3⟩:=(λ_=>opa_str hB Tryz.underlying9) n _ _ f3
 have f4:DataW.trod enc Tryz.prog w 0 (λ_=>true) true n 23 ((cs.drop 4).take (Tryz.prog.cellsOf 23))=some x4:=hf 4 _ rfl
 rw[show Tryz.prog.cellsOf 23=1 by kernel_rfl] at f4
 obtain⟨a4,r4,v4,b4⟩:=(sg (m:=n) (e:=26) (sz:=6) hB Tryz.underlying23 kr (λk hk=>ih k (by omega))) _ _ f4
 have f5:DataW.trod enc Tryz.prog w 0 (λ_=>true) true n 24 ((cs.drop 5).take (Tryz.prog.cellsOf 24))=some x5:=hf 5 _ rfl
 rw[show Tryz.prog.cellsOf 24=1 by kernel_rfl] at f5
 obtain⟨a5,r5,v5,b5⟩:=(sg (m:=n) (e:=9) (sz:=1) hB Tryz.underlying24 kr (λk _=>(λ_=>opa_str hB Tryz.underlying9) k)) _ _ f5
 refine⟨⟨a0,a1,a2,a3,a4,a5⟩,?_,?_,?_⟩
 ·rw[gM]
  have hcs:ae (Mem.of w) _ (cs.drop 0):=(ae.cut (k:=1) r0 (by rw[List.drop_drop];exact(ae.cut (k:=1) r1 (by rw[List.drop_drop];exact(ae.cut (k:=1) r2 (by rw[List.drop_drop];exact(ae.cut (k:=1) r3 (by rw[List.drop_drop];exact(ae.cut (k:=1) r4 (by rw[List.drop_drop];exact(ae.cut (k:=1) r5 (by rw[List.drop_drop];exact(show ae (Mem.of w) [] (cs.drop 6) from List.drop_eq_nil_of_le (by omega))))))))))))))
  exact hcs
 ·rw[gM];exact⟨v0,⟨v1,⟨v2,⟨v3,⟨v4,⟨v5,trivial⟩⟩⟩⟩⟩⟩
 rw[gM]
 have:=hB.agg ([x0,x1,x2,x3,x4,x5].map (·.1))
 simp only[List.map_cons,List.map_nil,List.sum_cons,List.sum_nil] at this ⊢
 simp only[dsz,dszs] at*
 omega
theorem rI {H:Type} (l:List (DataW H)):Rows.uptoBulkAll l=(l.map Rows.uptoBulk).sum:=by
 induction l with
 |nil=>simp[Rows.uptoBulkAll]
 |cons x l ih=>simp only[Rows.uptoBulkAll,List.map_cons,List.sum_cons,ih]
theorem bulk_ok {H:Type}:BulkOk (H:=H) Rows.uptoBulk where
 one d:=by
  cases d with
  |lit l=>cases l<;>simp[Rows.uptoBulk]
  |nil=>simp[Rows.uptoBulk]
  |ptr d=>simp[Rows.uptoBulk]
  |slice elems spare=>simp[Rows.uptoBulk]
  |agg parts=>simp[Rows.uptoBulk]
  |iface t d=>simp[Rows.uptoBulk]
  |map entries=>simp[Rows.uptoBulk]
  |held h=>simp[Rows.uptoBulk]
 str l:=by simp[Rows.uptoBulk]
 slice e s:=by
  simp only[Rows.uptoBulk]
  rw[rI e]
  omega
 agg e:=by
  simp only[Rows.uptoBulk]
  rw[rI e]
  exact Nat.le_refl _
theorem bulk_one {H:Type} {d:DataW H} {l:List (DataW H)} (h:Rows.uptoSmall H l=true) (hd:d∈l):Rows.uptoBulk d≤1048576:=by
 unfold Rows.uptoSmall at h
 have h:=of_decide_eq_true h
 rw[rI] at h
 have:=le_sum (List.mem_map_of_mem (f:=Rows.uptoBulk) hd)
 omega
end Go.Proofs.YtkopljikappieaaGreatDoor
end
