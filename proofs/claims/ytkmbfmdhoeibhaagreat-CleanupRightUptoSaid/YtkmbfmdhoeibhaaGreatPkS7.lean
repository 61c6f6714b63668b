/-
  Texts of this claim, packed (what nothing names is left out): B7, GoC, C1, RdyPlain, R6, RdyTurned, R7, RdyAdapt, B9, C2, C4, C5, C3, C6, B8, B2, C7, K1, K2, K3, K4, K5, PB, PC, QG, LW, PD, K6, K7. Own work, partly printed by own programs. No condition.
-/
import Derived.Test.YtkmbfmdhoeibhaaGreatPkS6
import Derived.Test.YtkmbfmdhoeibhaaGreatPkS2
import Derived.Test.YtkmbfmdhoeibhaaGreatPkS1
import Derived.Test.YtkmbfmdhoeibhaaGreatRows
import Derived.Test.YtkmbfmdhoeibhaaGreatPkS5
import Derived.Test.YtkmbfmdhoeibhaaGreatPkS4
set_option linter.unusedVariables false
set_option linter.unusedSimpArgs false
set_option maxHeartbeats 2000000
section
namespace Go.Proofs.YtkmbfmdhoeibhaaGreat
open Go Go.Vc Go.RowKit
open Go.Ck
variable (n:Nat)
def kw (d0:bH) (K1:Int× (List (bj×Bool))):Option (Lp (Int× (List (bj×Bool))) (Sum (List (bj×Bool)) (List (bj×Bool)))):=bif decide (K1.1<(d0.an.length:Int)) then(aq d0.an K1.1).bind λX7=>(ar (inR .i64 (K1.1+1))<|bif !(decide (X7.cP.gX=(K1.1+1))) then some (true) else ar (inR .i64 ((d0.am.length:Int)-1))<|(gM n X7.aX (0:Int) ((d0.am.length:Int)-1)).bind λX9=>bif !X9 then some (true) else(eu n X7.bW (0:Int) (2:Int)).bind λX11=>bif !X11 then some (true) else(eu n X7.aJ (0:Int) (2:Int)).bind λX13=>bif !X13 then some (true) else some ((eS K1.2 (⟨X7.aX,X7.aJ⟩:bj)).getD false):Option Bool).bind λG2=>bif G2 then some (.br (.inl K1.2)) else ar (inR .i64 (K1.1+1))<|some (.nx (K1.1+1,jv K1.2 (⟨X7.aX,X7.aJ⟩:bj) (true))) else some (.br (.inr K1.2))
def ky (n:Nat) (X15:List CD) (K2:Int):Option (Lp Int (Sum Unit Unit)):=bif decide (K2<(X15.length:Int)) then(aq X15 K2).bind λX17=>bif decide ((0:Int)<(X17.length:Int)) then ar (inR .i64 ((X17.length:Int)-1))<|(aq X17 ((X17.length:Int)-1)).bind λX19=>bif decide (K2≤X19) then some (.br (.inl ())) else ar (inR .i64 (K2+1))<|some (.nx (K2+1)) else ar (inR .i64 (K2+1))<|some (.nx (K2+1)) else some (.br (.inr ()))
def gg (d0:bH):Option Bool:=((gM n d0.co (1:Int) (4:Int)).bind λX1=>bif !X1 then some (true) else(eu n d0.aJ (0:Int) (3:Int)).bind λX3=>bif !X3 then some (true) else(rh n d0.bI).bind λX5=>some (!(decide (X5=0))):Option Bool).bind λG1=>bif G1 then some (false) else(av (kw n d0) n ((0:Int),([]:List (bj×Bool)))).bind λQ2=>(match Q2 with|.inl G3=>some (false)|.inr G4=>(lX n d0).bind λX15=>(av (ky n X15) n (0:Int)).bind λQ5=>(match Q5 with|.inl G5=>some (false)|.inr G6=>some (true)))
set_option maxRecDepth 20000 in
theorem gv (n:Nat) (d0:bH) (z:Zs):oK (bn.facts d0 z) [] 36 [bn.ag d0 z] (gg n d0) (λr y=>⟨.bool r,[],[]⟩):=
 fn 97 Tryz.func36 (jn (.reg 1) [bx 10] (λG1 _ _=>{L:=[(24,bO G1)],ks:=[1]}) (ob (λ_ X2=>bs [K 10 1,C (lE n d0.co (1:Int) (4:Int)) X2 [] [] 11] 13 (rt []) (ob (λ_ X4=>bs [K 10 16,C (jU n d0.aJ (0:Int) (3:Int)) X4 [] [] 11] 19 (rt []) (ob (λ_ X6=>rt [K 10 2,C (state_Check_C n d0.bI) X6 [0,1,2,3,4] [] 11])))))) (kA λ_=>br [] (rt []) (lp [mmK (λx:bj=>Value.agg #[iL x.change,iB x.phase]) 11 Value.bool,K 10 15] {} (λK1 _ _=>{L:=[(29,iL K1.1)],ks:=[1,3,27,28],o:=[(11,kl (λx:bj=>Value.agg #[iL x.change,iB x.phase]) Value.bool K1.2)]}) (λx z b=>match x with|.inl G3=>{e:=.ret,L:=[(2,bO false)],o:=[(11,kl (λx:bj=>Value.agg #[iL x.change,iB x.phase]) Value.bool G3)]}|.inr G4=>{e:=.exit 0,ks:=[1],o:=[(11,kl (λx:bj=>Value.agg #[iL x.change,iB x.phase]) Value.bool G4)]}) (λK1=>br [] (ob (λX7 X8=>jn (.reg 8) [I 9 12 cx X8,K 12 0,al 14,Sn 14,O 14,O 14,al 15,Sn 15] (λG2 _ _=>{L:=[(71,bO G2)],ks:=[1,3,6,27,28,29]}) (nd (λO1=>bs [O 14,wr 43 O1] 45 (rt []) (nd (λO2=>ob (λ_ X10=>bs [O 14,K 10 14,wr 51 O2,C (lE n X7.aX (0:Int) ((d0.am.length:Int)-1)) X10 [] [] 16] 55 (rt []) (ob (λ_ X12=>bs [O 14,C (jU n X7.bW (0:Int) (2:Int)) X12 [] [] 16] 61 (rt []) (ob (λ_ X14=>bs [O 14,C (jU n X7.aJ (0:Int) (2:Int)) X14 [] [] 16] 67 (rt []) (rt [O 15,mlS (kt:=166) (enc:=(λx:bj=>Value.agg #[iL x.change,iB x.phase])) (key2 (f:=bj.change) (g:=bj.phase) (t1:=3) (t2:=22) kr kr kr kr kr (λx y=>by cases x;cases y;simp)) 11 Value.bool K1.2 (⟨X7.aX,X7.aJ⟩:bj) false])))))))))) (kA λ_=>br [] (rt []) (nd (λO3=>rt [O 15,miS (kt:=166) (enc:=(λx:bj=>Value.agg #[iL x.change,iB x.phase])) (key2 (f:=bj.change) (g:=bj.phase) (t1:=3) (t2:=22) kr kr kr kr kr (λx y=>by cases x;cases y;simp)) 11 Value.bool K1.2 (⟨X7.aX,X7.aJ⟩:bj) (true),wr 74 O3]))))) (rt [])) (kS (kA λ_=>rt []) (kA λ_=>ob (λ_ X16=>lp [K 10 0,C (Aj n d0) X16 [0,1,2,3,4,5,6,7,8,9] [] 16] {} (λK2 _ _=>{L:=[(78,iL K2)],ks:=[76,77]}) (λx z b=>match x with|.inl G5=>{e:=.ret,L:=[(2,bO false)]}|.inr G6=>{e:=.exit 2}) (λK2=>br [] (ob (λ_ X18=>bs [I 16 17 (tL 1 (Dat.int .i64)) X18,K 17 0] 86 (nd (λO4=>ob (λ_ X20=>br [wr 90 O4,I 18 19 (tI .i64) X20,K 19 0] (rt []) (nd (λO5=>rt [wr 96 O5]))))) (nd (λO6=>rt [cd false,wr 96 O6])))) (rt [])) (kS (kA λ_=>rt []) (kA λ_=>rt []))))))))
end Go.Proofs.YtkmbfmdhoeibhaaGreat
end
section
namespace Go.Proofs.YtkmbfmdhoeibhaaGreat
open Go Go.Vc Go.RowKit Go.Ck
variable (n:Nat)
def goingL (n:Nat) (d1:bH):Nat→Int→Option (List (Int×gK))|0,_=>none|m+1,s_1=>bif decide (s_1<(d1.am.length:Int)) then(aq d1.am s_1).bind λx_2=>(bif !(decide (x_2.aA=4)) then some (!(decide (x_2.aA=3))) else some (false):Option Bool).bind λy_1=>bif y_1 then ar (inR .i64 (s_1+1))<|goingL n d1 m (s_1+1) else((kj n d1.bI x_2.ci).bind λx_3=>some (x_3.1,(x_3.2)):Option (gK×Bool)).bind λy_2=>bif y_2.2 then ar (inR .i64 (s_1+1))<|(goingL n d1 m (s_1+1)).bind λl=>some ((s_1,y_2.1)::l) else ar (inR .i64 (s_1+1))<|goingL n d1 m (s_1+1) else some []
def goingV (d1:bH):Option (List (Int×gK)):=(gg n d1).bind λx_1=>bif !x_1 then some [] else goingL n d1 n 0
theorem ned {p:Prop} [Decidable p] {α:Type} {x:Option α} (g:p):ar p x=x:=if_pos g
section
variable {σ β:Type}
def goS (d1:bH) (Y:σ→Int×gK→Option (Lp σ β)) (s_1:Int×σ):Option (Lp (Int×σ) (Lp σ β)):=bif decide (s_1.1<(d1.am.length:Int)) then(aq d1.am s_1.1).bind λx_2=>(bif !(decide (x_2.aA=4)) then some (!(decide (x_2.aA=3))) else some (false):Option Bool).bind λy_1=>bif y_1 then ar (inR .i64 (s_1.1+1))<|some (.nx (s_1.1+1,s_1.2)) else((kj n d1.bI x_2.ci).bind λx_3=>some (x_3.1,(x_3.2)):Option (gK×Bool)).bind λy_2=>bif y_2.2 then(Y s_1.2 (s_1.1,y_2.1)).bind λr=>match r with|.nx s'=>ar (inR .i64 (s_1.1+1)) (some (.nx (s_1.1+1,s')))|.br b=>some (.br (.br b)) else ar (inR .i64 (s_1.1+1))<|some (.nx (s_1.1+1,s_1.2)) else some (.br (.nx s_1.2))
def goR (d1:bH) {σ β:Type} (Y:σ→Int×gK→Option (Lp σ β)) (s0:σ):Option (Lp σ β):=(gg n d1).bind λx_1=>bif !x_1 then some (.nx s0) else(av (goS n d1 Y) n ((0:Int),s0)).bind λr=>some r
theorem AI {n:Nat} {d1:bH} {Y:σ→Int×gK→Option (Lp σ β)} {r:Lp σ β}: ∀ (m:Nat) (i:Int) (ls:List (Int×gK)) (s:σ),goingL n d1 m i=some ls→iN Y ls s=some r→av (goS n d1 Y) m (i,s)=some r
 |0,_,_,_,h,_=>by cases h
 |m+1,i,ls,s,h,hf=>by
  show((goS n d1 Y (i,s)).bind _)=_
  unfold goingL at h
  unfold goS
  dsimp only
  cases h1:decide (i<(d1.am.length:Int)) with
  |false=>
   rw[h1] at h
   obtain rfl:=Option.some.inj h
   exact hf
  |true=>
   rw[h1] at h
   obtain⟨x,hx,h⟩:=Option.bind_eq_some_iff.1 h
   obtain⟨y,hy,h⟩:=Option.bind_eq_some_iff.1 h
   rw[cond_true,hx,Option.bind_some,hy,Option.bind_some]
   cases y with
   |true=>
    obtain⟨g,h⟩:=eZ h
    rw[cond_true,ned g]
    exact AI m _ _ _ h hf
   |false=>
    obtain⟨o,ho,h⟩:=Option.bind_eq_some_iff.1 h
    rw[cond_false,ho,Option.bind_some]
    cases h2:o.2 with
    |false=>
     rw[h2] at h
     obtain⟨g,h⟩:=eZ h
     rw[cond_false,ned g]
     exact AI m _ _ _ h hf
    |true=>
     rw[h2] at h
     obtain⟨g,h⟩:=eZ h
     obtain⟨l,hl,h⟩:=Option.bind_eq_some_iff.1 h
     obtain rfl:=Option.some.inj h
     obtain⟨r1,hy1,hf⟩:=Option.bind_eq_some_iff.1 hf
     rw[cond_true,hy1,Option.bind_some]
     cases r1 with
     |br b=>exact hf
     |nx s'=>
      show((ar _ _).bind _)=_
      rw[ned g]
      exact AI m _ _ _ hl hf
end
theorem go_fold {n:Nat} {d1:bH} {ls:List (Int×gK)} (hF:goingV n d1=some ls) {σ β:Type} {Y:σ→Int×gK→Option (Lp σ β)} {s0:σ} {r:Lp σ β} (h:iN Y ls s0=some r):goR n d1 Y s0=some r:=by
 unfold goingV at hF
 unfold goR
 obtain⟨x,hx,hF⟩:=Option.bind_eq_some_iff.1 hF
 rw[hx,Option.bind_some]
 cases x with
 |false=>
  obtain rfl:=Option.some.inj hF
  exact h
 |true=>
  show((av (goS n d1 Y) n ((0:Int),s0)).bind _)=_
  rw[AI n 0 ls s0 hF h]
  rfl
theorem going_it (d1:bH) {ls:List (Int×gK)} (hls:goingV n d1=some ls) (z:Zs) (M:Mem) (hF:Fh M ([.kn (z 0).ad [Pa (z 1).ad],.kn (z 1).ad (bn.cells d1 (sh 2 z))]++bn.facts d1 (sh 2 z))):IterOk Tryz.prog 89 [Pa (z 0).ad] (vals2 (vstr aK)) ls M:=
 fnY (iS bN) 49 Tryz.func89 (R:=goR n d1) (go_fold hls) (@λσ β Y l J Jx hJ hJx hY s0=>ob (λ_ x_2=>br [K 1 0,K 2 0,C (gv n d1) x_2 [3,4,5,6,7,8,9,10,11,12] [] 13] (rt [] {is:=[0]}) (lp [K 1 0,K 2 14] {is:=[0]} (λs z _=>{L:=[(17,iL s.1)],ks:=[0,1,15,16],F:=[(50,.js (z 0).es (J s.2))],B:=some (z 0).es}) (λr z _=>match r with
  |.nx s=>{e:=.exit 0,F:=[(50,.js (z 0).es (J s))],B:=some (z 0).es}
  |.br b=>{e:=.ret,F:=[(50,.js (z 0).es (Jx b))],B:=some (z 0).es}) (λs=>br [] (ob λx_3 x_4=>jn (.reg 4) [I 11 14 dk x_4,K 14 0,al 20,Sn 20] (λy_1 _ _=>{L:=[(29,bO y_1)],ks:=[0,1,3,4,15,16,17]}) (bs [O 20] 25 (rt [O 20]) (rt [])) (kA λ_=>br [] (nd (λg_1=>rt [wr 48 g_1] {is:=[50]})) (jn (.reg 5) [] (λy_2 z _=>{L:=[(5,Pa (z 0).ad),(6,bO y_2.2)],ks:=[0,1,3,15,16,17],F:=[(30,.kn (z 0).ad (bN.cells y_2.1 (sh 1 z)))]++nums 31 (bN.facts y_2.1 (sh 1 z))}) (ob (λ_ x_6=>rt [K 1 0,K 2 2,O 20,C (wk n d1.bI x_3.ci) x_6 [3,4,5,6,7] [] 21,al 24,Sn 24,fz 24 25] {is:=[25,21,22]})) (kA λy_2=>bh (.reg 6) [] (λh=>yl (iS bN) hJ hJx hY 6 5 [bt 41 h,K 30 0] 50 [31,32] (λs'=>nd λg_2=>rt [cd false,wr 48 g_2] {is:=[50]}) λb=>rt [cd true] {is:=[50]}) (λh=>nd (λg_3=>rt [bt 41 h,cd false,wr 48 g_3] {is:=[50]})))))) (rt [] {is:=[50]})) (kL (kA λs=>rt [] {is:=[50]}) (kA λb=>rt [] {is:=[50]})))))
  (Go.Proofs.enters_of Tryz.func89 kr rfl) (hF:=hF)
theorem going_C (d:bH) (z:Zs):oK ([.kn (z 0).ad (bn.cells d (sh 1 z))]++bn.facts d (sh 1 z)) [] 41 [.pointer (some (z 0).ad)] (goingV n d) (λl y=>⟨.func (.func 89) #[] #[.pointer (some (y 0).ad)],[],[.kn (y 0).ad [.pointer (some (z 0).ad)],.pm (IterOk Tryz.prog 89 [.pointer (some (y 0).ad)] (vals2 (vstr aK)) l)]⟩):=by
 rw[←Option.bind_fun_some (goingV n d)]
 exact fn 4 Tryz.func41 (ob λl hl=>rt [bx 11,mk (going_it n d hl) 12 [11,0,1,2,3,4,5,6,7,8,9,10]] {is:=[11,12]})
end Go.Proofs.YtkmbfmdhoeibhaaGreat
end
section
namespace Go.Proofs.YtkmbfmdhoeibhaaGreat
open Go Go.Vc Go.RowKit
open Go.Ck
def uv (n:Nat) (K1:CD) (X3:Int×gK):Option (Lp CD Empty):=bif !X3.2.bV then ar ((K1.length+1)*8≤140737488355328)<|some (.nx (K1++[X3.1])) else some (.nx K1)
variable (n:Nat)
def oa (d0:bH):Option CD:=(goingV n d0).bind λX1=>(iN (uv n) X1 ([]:CD)).bind λj_1=>(match j_1 with|.nx K2=>some (K2)|.br _=>none)
theorem Bh (d0:bH) (z:Zs):oK (bn.facts d0 z) [] 18 [bn.ag d0 z] (oa n d0) (λr y=>⟨(y 1).sl r.length,[rX 3 1 (y 1) r],[qX 1 (Dat.int .i64) (y 1) r]⟩):=
 fnM 16 Tryz.func18 (ob (λ_ X2=>rf [bx 10,al 11,C (going_C n d0) X2 [10,0,1,2,3,4,5,6,7,8,9] [] 12,nr 14 15 3 (tI .i64)] (iS bN) 13 18 {is:=[15],js:=[14]} (λK1 z _=>{E:=[(17,rX 3 1 (z 1) K1)],x:=[14],m:=[(11,0,(z 1).sl K1.length)],F:=[(16,qX 1 (Dat.int .i64) (z 1) K1)]}) (λb=>b.elim) [al 20,Sn 20] (λK1 X3=>br [O 20] (nd (λO1=>rt [O 11,ao 21,lk 21 22 (tI .i64) [(X3.1,[])],ap (ys:=[X3.1]) 17 16 22 23 (tI .i64) O1,S1 11] {is:=[23],js:=[17]})) (rt [] {is:=[16],js:=[17]})) (kL (kA (λ_=>rt [O 11,S1 11] {is:=[16],js:=[17],rk:=[11]})) kE)))
end Go.Proofs.YtkmbfmdhoeibhaaGreat
end
section
namespace Go.Vc
abbrev LL:=List (List Int)
theorem Br {xs:CD} {k:Nat} (h:k<xs.length):xs.getD k 0∈xs:=by
 simp[List.getD,h]
theorem ul {l:LL} {k:Nat} (h:k<l.length):l.getD k []∈l:=by
 simp[List.getD,h]
theorem lt_zero {p:Nat→Prop}: ∀j,j<0→p j:=λj hj=>absurd hj (Nat.not_lt_zero j)
def rowOk (l:LL) (st:CD) (i:Nat):Bool:=decide (0≤st.getD i 0)&&decide (st.getD i 0≤5)&& !((l.getD i []).any λn=>decide (n<0)||decide ((l.length:Int)≤n))
def mayB (l:LL) (st:CD):Bool:=decide (l.length=st.length)&& (List.range l.length).all (rowOk l st)
theorem mayB_len {l:LL} {st:CD} (h:l.length≠st.length):mayB l st=false:=by simp[mayB,h]
theorem mayB_no {l:LL} {st:CD} {k:Nat} (hk:k<l.length) (h:rowOk l st k=false):mayB l st=false:=by
 cases hm:mayB l st with
 |false=>rfl
 |true=>
  simp only[mayB,Bool.and_eq_true,List.all_eq_true,List.mem_range] at hm
  rw[hm.2 k hk] at h;cases h
theorem mayB_yes {l:LL} {st:CD} (h:l.length=st.length) (hb: ∀j,j<l.length→rowOk l st j=true):mayB l st=true:=by
 simp only[mayB,Bool.and_eq_true,List.all_eq_true,List.mem_range,decide_eq_true_eq]
 exact⟨h,hb⟩
theorem xZ {l:LL} {st:CD} (h:mayB l st=true):l.length=st.length∧(∀i,i<st.length→0≤st.getD i 0∧st.getD i 0≤5)∧∀r∈l,∀n∈r,0≤n∧n<l.length:=by
 simp only[mayB,Bool.and_eq_true,List.all_eq_true,List.mem_range,decide_eq_true_eq] at h
 refine⟨h.1,λi hi=>?_,λr hr n hn=>?_⟩
 ·have:=h.2 i (by omega)
  simp only[rowOk,Bool.and_eq_true,decide_eq_true_eq] at this
  exact this.1
 obtain⟨i,hi,rfl⟩:=List.mem_iff_getElem.1 hr
 have:=h.2 i hi
 simp only[rowOk,Bool.and_eq_true,decide_eq_true_eq,Bool.not_eq_true',List.any_eq_false] at this
 have:=this.2 n (by simpa [List.getD,hi] using hn)
 simp at this
 omega
theorem rowOk_eq (l:LL) (st:CD) (i:Nat):rowOk l st i= !((decide ((st.getD i 0)<0))|| ((decide ((5:Int)<(st.getD i 0)))|| ((l.getD i []).any λn=>decide (n<0)||decide ((l.length:Int)≤n)))):=by
 unfold rowOk
 rw[Bool.eq_iff_iff]
 simp only[Bool.and_eq_true,Bool.not_eq_true',Bool.or_eq_false_iff,decide_eq_true_eq,decide_eq_false_iff_not,Int.not_lt]
 exact⟨λh=>⟨h.1.1,h.1.2,h.2⟩,λh=>⟨⟨h.1,h.2.1⟩,h.2.2⟩⟩
def letsB (s:Int):Bool:=decide (s=0)||decide (s=3)
def blocksB (s:Int):Bool:=decide (s=4)||decide (s=5)
def cntI (w:Int) (xs:CD):Nat:=xs.countP (· ==w)
theorem list_eq {xs ys:CD} (hl:xs.length=ys.length) (h: ∀j,j<xs.length→xs.getD j 0=ys.getD j 0):xs=ys:=by
 apply List.ext_getElem hl
 intro i h1 h2
 have:=h i h1
 simpa [List.getD,h1,h2] using this
def sel (f:Nat→Bool) (n:Nat):CD:=((List.range n).filter f).map Int.ofNat
theorem sel_zero (f:Nat→Bool):sel f 0=[]:=rfl
theorem sel_no {f:Nat→Bool} {n:Nat} (h:f n=false):sel f (n+1)=sel f n:=by simp[sel,List.range_succ,List.filter_append,h]
theorem sel_yes {f:Nat→Bool} {n:Nat} (h:f n=true):sel f (n+1)=sel f n++[(n:Int)]:=by simp[sel,List.range_succ,List.filter_append,h]
theorem yH (f:Nat→Bool) (n:Nat): (sel f n).length≤n:=by
 unfold sel
 rw[List.length_map]
 exact Nat.le_trans (List.length_filter_le _ _) (by simp)
theorem oM {f:Nat→Bool} {n:Nat} {x:Int}:x∈sel f n↔ ∃i:Nat,x=i∧i<n∧f i=true:=by
 simp only[sel,List.mem_map,List.mem_filter,List.mem_range]
 exact⟨λ ⟨i,h,e⟩=>⟨i,e.symm,h⟩,λ ⟨i,e,h⟩=>⟨i,h,e.symm⟩⟩
def pickF (Q:CD→(Int→Bool)→Bool) (is:Int→Bool) (l:LL) (st:CD) (i:Nat):Bool:=(decide ((st.getD i 0)=1))&& (Q (l.getD i []) λx=>is (st.getD x.toNat 0))
theorem cntI_all (w:Int) (xs:CD):cntI w xs≤xs.length:=List.countP_le_length
theorem rowOk_yes {l:LL} {st:CD} {k:Nat} (h: ¬ (st.getD k 0<0∨5<st.getD k 0)) (h2: ((l.getD k []).any λx=>(decide (x<0))|| (decide ((l.length:Int)≤x)))=false):rowOk l st k=true:=by
 rw[rowOk_eq,h2,dF (λx=>h (.inl x)),dF (λx=>h (.inr x))];rfl
theorem any_all (p:Int→Bool): ∀xs:CD,(!(xs.any λx=> !p x))=xs.all p
 |[]=>rfl
 |x::r=>by
  have:=any_all p r
  simp only[List.any_cons,List.all_cons,Bool.not_or,Bool.not_not,this]
end Go.Vc
end
section
namespace Go.Proofs.YtkmbfmdhoeibhaaGreat
open Go Go.Vc Go.RowKit
theorem insNil_ok (M:Mem):Ok Tryz.prog M 192 [qN,iL 0,iL 0] (λ_ v=>v=.tuple #[]):=by
 intro M hM0 w0 H w p0
 refine qR 49 Tryz.func192 rfl (λa0 f0=>?_)
 replace f0:Frm 49 [(0,qN),(1,iL 0),(2,iL 0)] a0:=f0
 refine cq ?_
 refine cN ?_
 refine bY f0 3 kr (λa_1 f_1=>?_)
 refine cL rfl ?_
 refine jL ?_
 refine wp_block ?_
 refine xx (n:=49) (w0:=w0) (M:=M) (λ (_:Unit)=>[(0,qN),(1,iL 0),(2,iL 0),(6,iL 1)]) (λ (_:Unit)=>(H)) (λ (_:Unit) (_:Mem)=>True) (λ (_:Unit)=>0) () (f_1.keep (ks:=[0,1,2,6]) kr) p0 ?_ ?_
 ·trivial
 rintro⟨⟩ AY a_2 w_1 wH I_1 f_2 p_1
 replace f_2:Frm 49 [(0,qN),(1,iL 0),(2,iL 0),(6,iL 1)] a_2:=f_2
 replace p_1:Hp w0 AY (H) w_1:=p_1
 refine cq ?_
 refine cq ?_
 refine cN ?_
 refine bY f_2 3 kr (λa_3 f_3=>?_)
 refine cL rfl ?_
 refine jL ?_
 refine AZ f_3 kr kr ?_
 refine wp_exit ?_
 refine T_x ?_
 refine T_x ?_
 refine B_x ?_
 refine E_end0 f_3 rfl ?_
 refine⟨_,rfl,AY,wH,p_1,?_⟩
 rfl
theorem pdqNil_ok (M:Mem):Ok Tryz.prog M 143 [qN,iL 0,iL 0,iL 0] (λ_ v=>v=.tuple #[]):=by
 intro M hM0 w0 H w p0
 refine qR 134 Tryz.func143 rfl (λa0 f0=>?_)
 replace f0:Frm 134 [(0,qN),(1,iL 0),(2,iL 0),(3,iL 0)] a0:=f0
 refine cq ?_
 refine cN ?_
 refine bY f0 1 kr (λa_1 f_1=>?_)
 refine cL rfl ?_
 refine jL ?_
 refine cq ?_
 refine cN ?_
 refine bY f_1 1 kr (λa_2 f_2=>?_)
 refine cL rfl ?_
 refine jL ?_
 refine wp_block ?_
 refine xx (n:=134) (w0:=w0) (M:=M) (λ (_:Unit)=>[(0,qN),(1,iL 0),(2,iL 0),(3,iL 0),(8,bO true),(9,bO true)]) (λ (_:Unit)=>(H)) (λ (_:Unit) (_:Mem)=>True) (λ (_:Unit)=>0) () (f_2.keep (ks:=[0,1,2,3,8,9]) kr) p0 ?_ ?_
 ·trivial
 rintro⟨⟩ AY a_3 w_1 wH I_1 f_3 p_1
 replace f_3:Frm 134 [(0,qN),(1,iL 0),(2,iL 0),(3,iL 0),(8,bO true),(9,bO true)] a_3:=f_3
 replace p_1:Hp w0 AY (H) w_1:=p_1
 refine wp_block ?_
 refine cq ?_
 refine cN ?_
 refine bY f_3 4 kr (λa_4 f_4=>?_)
 refine cL rfl ?_
 refine jL ?_
 refine cq ?_
 refine cq ?_
 refine cN ?_
 refine bY f_4 2 kr (λa_5 f_5=>?_)
 refine cL rfl ?_
 refine jL ?_
 refine R_cond_t f_5 kr kr ?_
 refine cq ?_
 refine cN ?_
 refine bY f_5 3 kr (λa_6 f_6=>?_)
 refine W_okv (v:=.tuple #[]) f_6 p_1 kr kr rfl rfl (λ_=>by kernel_rfl) (insNil_ok _) (λw_2 p_2 a_7 f_7=>?_)
 refine cL rfl ?_
 refine jL ?_
 refine wp_ret ?_
 refine T_r ?_
 refine B_r ?_
 refine T_r ?_
 refine B_r ?_
 refine E_ret0 f_7 rfl ?_
 refine⟨_,rfl,AY,wH,p_2,?_⟩
 rfl
theorem sortNil_ok (M:Mem):Ok Tryz.prog M 80 [qN] (λ_ v=>v=.tuple #[]):=by
 intro M hM0 w0 H w p0
 refine qR 11 Tryz.func80 rfl (λa0 f0=>?_)
 replace f0:Frm 11 [(0,qN)] a0:=f0
 refine cq ?_
 refine cN ?_
 refine bY f0 3 kr (λa_1 f_1=>?_)
 refine cL rfl ?_
 refine jL ?_
 refine cN ?_
 refine bY f_1 3 kr (λa_2 f_2=>?_)
 refine bY f_2 1 kr (λa_3 f_3=>?_)
 have f_4:=Frm.set f_3 8 (v:=.int .u64 (IntKind.wrap .u64 (0))) (v':=.int .u64 0) kr (congrArg (Value.int .u64) (IntWalk.u64_in _ (by omega)))
 refine W_okv (v:=iL 0) f_4 p0 kr kr rfl rfl (λ_=>by kernel_rfl) ((Ok.ofPure λw=>Tryz.bits_Len 0 w (by decide) (by decide)).mono (λ_ _ _ h=>h.trans kr)) (λw_1 p_1 a_4 f_6=>?_)
 refine W_okv (v:=.tuple #[]) f_6 p_1 kr kr rfl rfl (λ_=>by kernel_rfl) (pdqNil_ok _) (λw_2 p_2 a_5 f_7=>?_)
 refine cL rfl ?_
 refine E_end0 f_7 rfl ?_
 refine⟨_,rfl,M,(Mem.le_refl _),p_2,?_⟩
 rfl
theorem sort_ok (M:Mem) (v:Value) (xs:CD) (h:xs.length≤1099511627776):OkH Tryz.prog M [.row 3 1 v xs.length (xs.map (Value.int .i64))] 80 [v] λ_ E' u=>u=.tuple #[]∧E'=[.row 3 1 v xs.length ((rise xs).map (Value.int .i64))]:=
 sortRow (rise_len xs) (λblk off cap w hH hb=>Tryz.slices_Sort_int blk off cap xs w hH hb (by omega)) (λ_ M=>sortNil_ok M) M v
theorem rising_ok (M:Mem) (b:Nat) (ms:List (Int×Value)) (hb:M b=some (mObj (Value.int .i64) ms)) (msL:ms.length≤1099511627776):Ok Tryz.prog M 191 [.map (some b)] (λM' v=>RetInts M .i64 (rise (ms.map (·.1))) M' v):=by
 intro M1 hM0 w0 H w p0
 replace hb:=hM0 _ _ hb
 refine qR 17 Tryz.func191 rfl (λa0 f0=>?_)
 replace f0:Frm 17 [(0,.map (some b))] a0:=f0
 refine cq ?_
 refine cN ?_
 refine bY f0 1 kr (λa_1 f_1=>?_)
 refine cL rfl ?_
 refine jL ?_
 refine cq ?_
 refine cq ?_
 have p_1:Hp w0 M1 ((Ent.row 3 1 (.slice none 0 0) 0 [])::H) w:=p0.nilRow 3 1
 refine cN ?_
 refine bY f_1 1 kr (λa_2 f_2=>?_)
 refine W_range (enc:=(Value.int .i64)) (m:=ms) (b:=b) (kt:=3) (et:=4) f_2 p_1 kr kr rfl rfl rfl kr kr (p_1.mem _ _ hb) (λAl w_1 p_2 a_3 f_3=>?_)
 refine cL rfl ?_
 refine jL ?_
 refine wp_block ?_
 have f_4:=Frm.set f_3 2 (v:=qN) (v':=qN) kr (by first|rfl|(congr 1;omega)|simp)
 refine xx (n:=17) (w0:=w0) (M:=M1) (λ (seen,v,xs)=>[(2,v),(5,pP Al)]) (λ (seen,v,xs)=>((Ent.obj Al (.mapIter (some b) ms.length seen ms.length))::(Ent.row 3 1 v xs.length (xs.map (Value.int .i64)))::H)) (λ (x:Array Nat×Value×CD) (_:Mem)=>match x with|(seen,v,xs)=>(CollI ms seen xs)) (λ (seen,v,xs)=>(todo ms seen).length) (#[],qN,[]) (f_4.keep (ks:=[2,5]) kr) p_2 ?_ ?_
 ·exact CollI.start ms
 rintro⟨seen,v,xs⟩ AY a_4 w_2 wH I_1 f_5 p_3
 replace f_5:Frm 17 [(2,v),(5,pP Al)] a_4:=f_5
 replace p_3:Hp w0 AY ((Ent.obj Al (.mapIter (some b) ms.length seen ms.length))::(Ent.row 3 1 v xs.length (xs.map (Value.int .i64)))::H) w_2:=p_3
 replace I_1: (CollI ms seen xs):=I_1
 have hC:=I_1
 have hCl:=hC.len
 refine cq ?_
 refine cN ?_
 refine W_next (enc:=(Value.int .i64)) (m:=ms) (seen:=seen) (b:=b) (r:=Al) f_5 p_3 kr kr rfl rfl rfl kr (p_3.mem _ _ (wH _ _ hb)) (λht_1 w_3 p_4 a_5 f_6=>?_) (λAk hq_1 w_4 p_5 a_6 f_7=>?_)
 ·refine bY f_6 1 kr (λa_7 f_8=>?_)
  refine cL rfl ?_
  refine jL ?_
  refine cq ?_
  refine AZ f_8 kr kr ?_
  refine wp_exit ?_
  refine T_x ?_
  refine T_x ?_
  refine B_x ?_
  refine jL ?_
  refine cq ?_
  refine cN ?_
  refine bY f_8 1 kr (λa_8 f_9=>?_)
  have p_6:Hp w0 AY ((Ent.row 3 1 v xs.length (xs.map (Value.int .i64)))::(Ent.obj Al (.mapIter (some b) ms.length seen ms.length))::H) w_3:=p_4.pull 1 rfl rfl
  refine W_okH (E:=[Ent.row 3 1 v xs.length (xs.map (Value.int .i64))]) (H:=((Ent.obj Al (.mapIter (some b) ms.length seen ms.length))::H)) f_9 p_6 kr kr rfl rfl (λ_=>by kernel_rfl) (sort_ok _ v xs (by omega)) (λv_1 M_2 E_1 w_5 hM_2 p_7 q_2 a_9 f_10=>?_)
  obtain⟨rfl,rfl⟩:=q_2
  have p_8:Hp w0 AY ((Ent.row 3 1 v xs.length ((rise xs).map (Value.int .i64)))::(Ent.obj Al (.mapIter (some b) ms.length seen ms.length))::H) w_5:=p_7.less hM_2
  refine cL rfl ?_
  refine jL ?_
  refine cq ?_
  refine cN ?_
  refine bY f_10 2 kr (λa_10 f_11=>?_)
  refine cL rfl ?_
  refine jL ?_
  refine wp_ret ?_
  refine oR f_11 rfl (Lk 2 (v)) ?_
  have p_9:Hp w0 AY ((Ent.row 3 1 v (rise (ms.map (·.1))).length ((rise (ms.map (·.1))).map (Value.int .i64)))::(Ent.obj Al (.mapIter (some b) ms.length seen ms.length))::H) w_5:=p_8.rowEq (by rw[rise_perm (hC.all ht_1).symm,rise_len]) (by rw[rise_perm (hC.all ht_1).symm])
  obtain⟨M9,hM9,p9,r9⟩:=p_9.rowInts
  exact⟨_,rfl,M9,wH.trans hM9,p9.dropN 1,r9.more (hM0.trans wH) (Mem.le_refl _)⟩
 refine bY f_7 1 kr (λa_11 f_12=>?_)
 refine cL rfl ?_
 refine jL ?_
 refine cq ?_
 refine R_cond_t f_12 kr kr ?_
 refine wp_skip ?_
 refine jL ?_
 refine wp_block ?_
 refine cq ?_
 refine cN ?_
 refine ku (v:=.tuple #[iL Ak.1.1,Ak.1.2]) f_12 kr (X_entry (enc:=(Value.int .i64)) (m:=ms) (seen:=seen) (p:=Ak.1) (j:=Ak.2) (b:=b) (r:=Al) rfl kr (p_5.ownObj 0 rfl) (p_5.mem _ _ (wH _ _ hb)) (todo_mem hq_1).1) (λa_12 f_13=>?_)
 refine bY f_13 2 kr (λa_13 f_14=>?_)
 refine cL rfl ?_
 refine jL ?_
 refine cN ?_
 refine bY f_14 2 kr (λa_14 f_15=>?_)
 refine W_alloc f_15 p_5 1 [5,10,11,12] (.cells #[iL Ak.1.1] 3 (0,0)) (λnR=>[(5,pP Al),(10,v),(11,iL Ak.1.1),(12,.slice (some ⟨nR,0,none⟩) 1 1)]) (λ_=>by kernel_rfl) (λnR w_6 p_10 a_15 f_16=>?_)
 replace f_16:Frm 17 [(5,pP Al),(10,v),(11,iL Ak.1.1),(12,.slice (some ⟨nR,0,none⟩) 1 1)] a_15:=f_16
 have p_11:Hp w0 AY ((Ent.row 3 1 v xs.length (xs.map (Value.int .i64)))::(oC nR #[iL Ak.1.1] 3)::(Ent.obj Al (.mapIter (some b) ms.length (seen.push Ak.2) ms.length))::H) w_6:=p_10.pull 2 rfl rfl
 refine Bb (d:=13) (t:=47) (e:=3) (z:=iL 0) (v:=v) (size:=1) (bytes:=8) (k:=xs.length) (m:=1) (c:=1) (xs:=xs.map (Value.int .i64)) (news:=[iL Ak.1.1]) (ad:=⟨nR,0,none⟩) f_16 p_11 kr kr rfl rfl rfl kr kr kr kr (rfl) (own_cells (p_11.ownCell 1 rfl) 0 rfl) (all_one kr) (by omega) (by omega) (λv_2 w_7 p_12 a_16 f_17=>?_)
 have p_13:Hp w0 AY ((oC nR #[iL Ak.1.1] 3)::(Ent.row 3 1 v_2 (xs.length+1) ((xs.map (Value.int .i64))++[iL Ak.1.1]))::(Ent.obj Al (.mapIter (some b) ms.length (seen.push Ak.2) ms.length))::H) w_7:=p_12.pull 1 rfl rfl
 have p_14:=p_13.drop
 refine bY f_17 1 kr (λa_17 f_18=>?_)
 refine cL rfl ?_
 refine B_n ?_
 refine jL ?_
 have p_15:Hp w0 AY ((Ent.row 3 1 v_2 (xs++[Ak.1.1]).length ((xs++[Ak.1.1]).map (Value.int .i64)))::(Ent.obj Al (.mapIter (some b) ms.length (seen.push Ak.2) ms.length))::H) w_7:=p_14.rowEq (by simp) (by simp)
 have p_16:Hp w0 AY ((Ent.obj Al (.mapIter (some b) ms.length (seen.push Ak.2) ms.length))::(Ent.row 3 1 v_2 (xs++[Ak.1.1]).length ((xs++[Ak.1.1]).map (Value.int .i64)))::H) w_7:=p_15.pull 1 rfl rfl
 refine⟨((seen.push Ak.2,v_2,xs++[Ak.1.1]):Array Nat×Value×CD),?_,AY,wH,?_,f_18.keep (ks:=[2,5]) kr,p_16⟩
 ·exact todo_less hq_1
 exact hC.step hq_1
theorem risingNil_ok (M:Mem):Ok Tryz.prog M 191 [.map none] (λM' v=>RetInts M .i64 [] M' v):=by
 intro M hM0 w0 H w p0
 refine qR 17 Tryz.func191 rfl (λa0 f0=>?_)
 replace f0:Frm 17 [(0,.map none)] a0:=f0
 refine cq ?_
 refine cN ?_
 refine bY f0 1 kr (λa_1 f_1=>?_)
 refine cL rfl ?_
 refine jL ?_
 refine cq ?_
 refine cq ?_
 have p_1:Hp w0 M ((Ent.row 3 1 (.slice none 0 0) 0 [])::H) w:=p0.nilRow 3 1
 refine cN ?_
 refine bY f_1 1 kr (λa_2 f_2=>?_)
 refine W_range_nil (kt:=3) (et:=4) f_2 p_1 kr kr rfl rfl rfl kr kr (λAl w_1 p_2 a_3 f_3=>?_)
 refine cL rfl ?_
 refine jL ?_
 refine wp_block ?_
 refine xx (n:=17) (w0:=w0) (M:=M) (λ (_:Unit)=>[(2,qN),(5,pP Al)]) (λ (_:Unit)=>((Ent.obj Al (.mapIter none 0 #[] 0))::(Ent.row 3 1 qN 0 [])::H)) (λ (_:Unit) (_:Mem)=>True) (λ (_:Unit)=>0) () (f_3.keep (ks:=[2,5]) kr) p_2 ?_ ?_
 ·trivial
 rintro⟨⟩ AY a_4 w_2 wH I_1 f_4 p_3
 replace f_4:Frm 17 [(2,qN),(5,pP Al)] a_4:=f_4
 replace p_3:Hp w0 AY ((Ent.obj Al (.mapIter none 0 #[] 0))::(Ent.row 3 1 qN 0 [])::H) w_2:=p_3
 refine cq ?_
 refine cN ?_
 refine ku (v:=.tuple #[bO false]) f_4 kr (X_next_nil rfl kr (p_3.ownObj 0 rfl)) (λa_5 f_5=>?_)
 refine bY f_5 1 kr (λa_6 f_6=>?_)
 refine cL rfl ?_
 refine jL ?_
 refine cq ?_
 refine AZ f_6 kr kr ?_
 refine wp_exit ?_
 refine T_x ?_
 refine T_x ?_
 refine B_x ?_
 refine jL ?_
 refine cq ?_
 refine cN ?_
 refine bY f_6 1 kr (λa_7 f_7=>?_)
 have p_4:Hp w0 AY ((Ent.row 3 1 qN 0 [])::(Ent.obj Al (.mapIter none 0 #[] 0))::H) w_2:=p_3.pull 1 rfl rfl
 refine W_okH (E:=[Ent.row 3 1 qN 0 []]) (H:=((Ent.obj Al (.mapIter none 0 #[] 0))::H)) f_7 p_4 kr kr rfl rfl (λ_=>by kernel_rfl) (sort_ok _ qN [] (by simp)) (λv_1 M_2 E_1 w_3 hM_2 p_5 Ak a_8 f_8=>?_)
 obtain⟨rfl,rfl⟩:=Ak
 have p_6:Hp w0 AY ((Ent.row 3 1 qN ([]:CD).length ((rise []).map (Value.int .i64)))::(Ent.obj Al (.mapIter none 0 #[] 0))::H) w_3:=p_5.less hM_2
 refine cL rfl ?_
 refine jL ?_
 refine cq ?_
 refine cN ?_
 refine bY f_8 2 kr (λa_9 f_9=>?_)
 refine cL rfl ?_
 refine jL ?_
 refine wp_ret ?_
 refine oR f_9 rfl (Lk 2 qN) ?_
 have p_7:Hp w0 AY ((Ent.row 3 1 qN ([]:CD).length (([]:CD).map (Value.int .i64)))::(Ent.obj Al (.mapIter none 0 #[] 0))::H) w_3:=p_6.rowEq (rfl) (by rw[rise_nil])
 obtain⟨M9,hM9,p9,r9⟩:=p_7.rowInts
 exact⟨_,rfl,M9,wH.trans hM9,p9.dropN 1,r9.more (hM0.trans wH) (Mem.le_refl _)⟩
end Go.Proofs.YtkmbfmdhoeibhaaGreat
end
section
namespace Go.Vc
open Go
def hits (l:LL) (k:Nat) (i:Nat):Bool:=(l.getD i []).any λx=>decide (x=(k:Int))
def turnedL (l:LL):LL:=(List.range l.length).map λk=>sel (hits l k) l.length
def gotK (l:LL) (i j k:Nat):CD:=sel (hits l k) i++if ((l.getD i []).take j).any (λx=>decide (x=(k:Int))) then [(i:Int)] else []
def TI (l:LL) (i j:Nat) (G:MapRow Int):Prop:=G.length=l.length∧∀k,k<l.length→keysOf (G.getD k none)=gotK l i j k
theorem any_take {r:CD} {p:Int→Bool} {j:Nat} (h:j<r.length): (r.take (j+1)).any p=((r.take j).any p||p (r.getD j 0)):=by
 rw[List.take_add_one,List.any_append]
 simp[List.getD,h,Option.toList]
theorem TI.start (l:LL):TI l 0 0 (List.replicate l.length none):=by
 refine⟨by simp,λk hk=>?_⟩
 simp[gotK,sel_zero,List.getD,hk,keysOf]
theorem TI.skip {l:LL} {i j:Nat} {G:MapRow Int} (h:TI l i j G) (hj:j<(l.getD i []).length) (hx: (l.getD i []).getD j 0<0∨(l.length:Int)≤(l.getD i []).getD j 0):TI l i (j+1) G:=by
 refine⟨h.1,λk hk=>(h.2 k hk).trans ?_⟩
 unfold gotK
 rw[any_take hj,dF (p:=(l.getD i []).getD j 0=(k:Int)) (by omega),Bool.or_false]
theorem TI.row {l:LL} {i j:Nat} {G:MapRow Int} (h:TI l i j G) (hj: (l.getD i []).length≤j):TI l (i+1) 0 G:=by
 refine⟨h.1,λk hk=>(h.2 k hk).trans ?_⟩
 unfold gotK
 rw[List.take_of_length_le hj]
 cases hh:hits l k i with
 |true=>
  rw[sel_yes hh]
  simp only[hits] at hh
  rw[hh];simp
 |false=>
  rw[sel_no hh]
  simp only[hits] at hh
  rw[hh];simp
def addKey (ks:CD) (i:Int):CD:=if i∈ks then ks else ks++[i]
theorem keys_upd (m:List (Int×Value)) (i:Int) (v:Value): (updM m i v).map (·.1)=addKey (m.map (·.1)) i:=by
 unfold updM addKey
 cases h:lkAt i m 0 with
 |none=>
  rw[if_neg (lkAt_none.1 h)]
  simp
 |some p=>
  obtain⟨h1,h2⟩:=wq (i:=p.1) (v:=p.2) h
  simp only[Nat.sub_zero] at h2
  have hm:i∈m.map (·.1):=List.mem_map.2 ⟨_,List.mem_of_getElem? h2,rfl⟩
  rw[if_pos hm]
  apply List.ext_getElem?
  intro q
  simp only[List.getElem?_map,List.getElem?_set]
  by_cases e:p.1=q
  ·subst e
   obtain⟨hl,he⟩:=List.getElem?_eq_some_iff.1 h2
   simp[hl,he]
  simp[e]
theorem TI.put {l:LL} {i j:Nat} {G G':MapRow Int} (h:TI l i j G) (hj:j<(l.getD i []).length) (h0:0≤(l.getD i []).getD j 0) (hl:G'.length=G.length)
 (ho: ∀k,k≠ ((l.getD i []).getD j 0).toNat→G'.getD k none=G.getD k none) (hk:keysOf (G'.getD ((l.getD i []).getD j 0).toNat none)=addKey (keysOf (G.getD ((l.getD i []).getD j 0).toNat none)) i):TI l i (j+1) G':=by
 refine⟨hl.trans h.1,λk hkl=>?_⟩
 unfold gotK
 rw[any_take hj]
 by_cases e: (l.getD i []).getD j 0=(k:Int)
 ·have ek:k=((l.getD i []).getD j 0).toNat:=by omega
  rw[dT e,Bool.or_true,if_pos rfl,ek,hk,←ek,h.2 k hkl]
  unfold addKey gotK
  have hns: (i:Int)∉sel (hits l k) i:=λhm=>by
   obtain⟨q,e1,e2,_⟩:=oM.1 hm
   omega
  by_cases hb: ((l.getD i []).take j).any (λx=>decide (x=(k:Int)))=true
  ·rw[hb];simp
  rw[if_neg hb,List.append_nil,if_neg hns]
 have ek:k≠ ((l.getD i []).getD j 0).toNat:=by omega
 rw[dF e,Bool.or_false,ho k ek]
 exact h.2 k hkl
theorem xL (f:Nat→Bool): ∀n,(sel f n).Pairwise λx y=>decide (x≤y)=true
 |0=>.nil
 |n+1=>by
  cases h:f n with
  |false=>rw[sel_no h];exact xL f n
  |true=>
   rw[sel_yes h,List.pairwise_append]
   refine⟨xL f n,List.pairwise_singleton _ _,λx hx y hy=>?_⟩
   obtain⟨q,e1,e2,_⟩:=oM.1 hx
   simp at hy
   simp;omega
theorem rise_sel (f:Nat→Bool) (n:Nat):rise (sel f n)=sel f n:=List.mergeSort_of_pairwise (xL f n)
theorem TI.done {l:LL} {G:MapRow Int} (h:TI l l.length 0 G) {k:Nat} (hk:k<l.length):rise (keysOf (G.getD k none))=(turnedL l).getD k []:=by
 have e: (turnedL l).getD k []=sel (hits l k) l.length:=by simp[turnedL,List.getD,hk]
 rw[e,h.2 k hk]
 unfold gotK
 simp[rise_sel]
theorem TI.len {l:LL} {G:MapRow Int} (h:TI l l.length 0 G) {k:Nat} (hk:k<l.length): (keysOf (G.getD k none)).length≤l.length:=by
 have e: (turnedL l).getD k []=sel (hits l k) l.length:=by simp[turnedL,List.getD,hk]
 rw[←rise_len,h.done hk,e]
 exact yH _ _
theorem memOf {κ:Type} {G:MapRow κ} {k:Nat} (hk:k<G.length) {x:Option (Nat×List (κ×Value))} (h:G.getD k none=x):x∈G:=by
 rw[←h];simp[List.getD,hk]
theorem outStep {M:Mem} {O:Lv} {R:LL} {k:Nat} {v:Value} (hk:k<O.length) (hb: ∀q,q<k→IntRow M .i64 (O.getD q undef) (R.getD q [])) (hv:IntRow M .i64 v (R.getD k [])): ∀q,q<k+1→IntRow M .i64 ((O.set k v).getD q undef) (R.getD q []):=λq hq=>by
 by_cases e:q=k
 ·subst e
  have: (O.set q v).getD q undef=v:=by simp[List.getD,hk]
  rw[this];exact hv
 have: (O.set k v).getD q undef=O.getD q undef:=by
  simp only[List.getD_eq_getElem?_getD]
  rw[List.getElem?_set_ne (by omega)]
 rw[this];exact hb q (by omega)
def wayL (l:LL) (back:Bool):LL:=bif back then turnedL l else l
theorem qs (l:LL): (turnedL l).length=l.length:=by simp[turnedL]
theorem wayL_len (l:LL) (b:Bool): (wayL l b).length=l.length:=by cases b<;>simp[wayL,qs]
theorem aAf {l:LL}: ∀ {x:CD},x∈turnedL l→∃k,x=sel (hits l k) l.length:=λ {x} h=>by
 obtain⟨k,_,e⟩:=List.mem_map.1 h
 exact⟨k,e.symm⟩
theorem way_in {l:LL} {st:CD} {b:Bool} (h:mayB l st=true): ∀r∈wayL l b,∀x∈r,0≤x∧x<st.length:=by
 obtain⟨h1,_,h3⟩:=xZ h
 cases b with
 |false=>intro r hr x hx;have:=h3 r hr x hx;omega
 |true=>
  intro r hr x hx
  obtain⟨k,rfl⟩:=aAf (l:=l) hr
  obtain⟨i,e,hi,_⟩:=oM.1 hx
  omega
def allQr (xs:CD) (p:Int→Bool):Bool:=xs.all p
def anyQ (xs:CD) (p:Int→Bool):Bool:=xs.any p
def rdyL (l:LL) (st:CD) (b:Bool):CD:=sel (pickF allQr letsB (wayL l b) st) st.length
def readyR (l:LL) (st:CD) (b:Bool):CD:=bif mayB l st then rdyL l st b else []
theorem RetInts.nil (M:Mem) (k:IntKind) (M':Mem):RetInts M k [] M' (.slice none 0 0):=⟨none,0,rfl,⟨Nat.le_refl _,λ_=>rfl⟩,.inl rfl,λ_ e=>by cases e⟩
end Go.Vc
end
section
namespace Go.Proofs.YtkmbfmdhoeibhaaGreat
open Go Go.Vc Go.RowKit
theorem risingAny_ok (M:Mem) (g:Option (Nat×List (Int×Value))) (hb: ∀b m,g=some (b,m)→M b=some (mObj (Value.int .i64) m)) (hL: (keysOf g).length≤1099511627776):Ok Tryz.prog M 191 [hdOf g] (λM' v=>RetInts M .i64 (rise (keysOf g)) M' v):=by
 rcases g with _|⟨b,m⟩
 ·exact(risingNil_ok M).mono λM' v _ h=>by rw[show rise (keysOf (none:Option (Nat×List (Int×Value))))=[] from rise_nil];exact h
 exact rising_ok M b m (hb b m rfl) (by simpa [keysOf] using hL)
theorem turned_ok (M:Mem) (A:Oa) (l:LL) (cap:Nat) (hl:Vc.Rows M .i64 A l) (lL:l.length≤1099511627776) (rL: ∀r∈l,r.length≤1099511627776):Ok Tryz.prog M 140 [sL A l cap] (λM' v=>∃ad,v=.slice (some ad) (turnedL l).length (turnedL l).length∧Vc.Rows M' .i64 (some ad) (turnedL l)):=by
 intro M1 hM0 w0 H w p0
 replace hl:=hl.mono hM0
 refine qR 68 Tryz.func140 rfl (λa0 f0=>?_)
 replace f0:Frm 68 [(0,sL A l cap)] a0:=f0
 refine cq ?_
 refine cN ?_
 refine bY f0 1 kr (λa_1 f_1=>?_)
 refine cL rfl ?_
 refine jL ?_
 refine cq ?_
 refine cN ?_
 refine bY f_1 2 kr (λa_2 f_2=>?_)
 refine W_make (m:=l.length) (z:=.map none) (bytes:=8) (e:=49) f_2 p0 kr kr rfl rfl rfl kr kr kr kr rfl (by omega) (by omega) (λnR w_1 p_1 a_3 f_3=>?_)
 have p_2:Hp w0 M1 ((Ent.obj nR (.cells ((List.replicate l.length none:MapRow Int).map hdOf).toArray 49 (0,0)))::(bag (Value.int .i64) (List.replicate l.length none:MapRow Int)++H)) w_1:=by rw[hd_none,bag_none];exact p_1
 refine bY f_3 1 kr (λa_4 f_4=>?_)
 refine cL rfl ?_
 refine jL ?_
 refine cq ?_
 refine cq ?_
 refine cN ?_
 refine bY f_4 3 kr (λa_5 f_5=>?_)
 refine cL rfl ?_
 refine jL ?_
 refine wp_block ?_
 have f_6:=Frm.set f_5 16 (v:=iL 0) (v':=iL (0:Int)) kr (by first|rfl|(congr 1;omega)|simp)
 refine xx (n:=68) (w0:=w0) (M:=M1) (λ (i,G)=>[(0,sL A l cap),(3,.slice (some ⟨nR,0,none⟩) l.length l.length),(14,sL A l cap),(15,iL (l.length:Int)),(16,iL (i:Int))]) (λ (i,G)=>((Ent.obj nR (.cells (G.map hdOf).toArray 49 (0,0)))::(bag (Value.int .i64) G++H))) (λ (x:Nat×MapRow Int) (_:Mem)=>match x with|(i,G)=>(i≤l.length)∧(TI l i 0 G)) (λ (i,G)=>l.length-i) (0,List.replicate l.length none) (f_6.keep (ks:=[0,3,14,15,16]) kr) p_2 ?_ ?_
 ·exact⟨Nat.zero_le _,TI.start l⟩
 rintro⟨i,G⟩ AY a_6 w_2 wH I_1 f_7 p_3
 replace f_7:Frm 68 [(0,sL A l cap),(3,.slice (some ⟨nR,0,none⟩) l.length l.length),(14,sL A l cap),(15,iL (l.length:Int)),(16,iL (i:Int))] a_6:=f_7
 replace p_3:Hp w0 AY ((Ent.obj nR (.cells (G.map hdOf).toArray 49 (0,0)))::(bag (Value.int .i64) G++H)) w_2:=p_3
 replace I_1: (i≤l.length)∧(TI l i 0 G):=I_1
 obtain⟨hi,hT⟩:=I_1
 have hGl:=hT.1
 refine cq ?_
 refine cN ?_
 refine bY f_7 1 kr (λa_7 f_8=>?_)
 refine cL rfl ?_
 refine jL ?_
 refine cq ?_
 refine xw f_8 (b:=decide ((i:Int)<(l.length:Int))) kr kr (λh_1=>?_) (λh_1=>?_)
 ·have k_1: (i:Int)<(l.length:Int):=decide_eq_true_iff.1 h_1
  refine wp_skip ?_
  refine jL ?_
  refine cq ?_
  refine wp_block ?_
  refine cq ?_
  refine cN ?_
  refine bY f_8 1 kr (λa_8 f_9=>?_)
  obtain⟨ad_1,e_1,B_1,Bg,hc_1,hcap_1,hi_1⟩:=Vc.Rows.at_ (hl.mono wH) (i:=(i:Int)) (by omega) (by omega)
  replace hcap_1: (l.getD i []).length≤Bg:=hcap_1
  replace hi_1:Ints _ .i64 B_1 (l.getD i []):=hi_1
  refine ku (v:=Pa (ad_1.add ((i:Int).toNat*1))) f_9 kr (nZ e_1 rfl (len:=l.length) (cap:=cap) (k:=.i64) (i:=(i:Int)) kr kr (e:=47) kr (sz:=1) kr (by omega) (by omega)) (λa_9 f_10=>?_)
  refine ku (v:=sL B_1 (l.getD i []) Bg) f_10 kr (sQ (v:=sL B_1 (l.getD i []) Bg) rfl (ad:=ad_1.add ((i:Int).toNat*1)) kr kr (p_3.cell hc_1)) (λa_10 f_11=>?_)
  refine bY f_11 2 kr (λa_11 f_12=>?_)
  refine cL rfl ?_
  refine jL ?_
  refine cq ?_
  refine cN ?_
  refine bY f_12 3 kr (λa_12 f_13=>?_)
  refine cL rfl ?_
  refine jL ?_
  refine wp_block ?_
  have f_14:=Frm.set f_13 23 (v:=iL 0) (v':=iL (0:Int)) kr (by first|rfl|(congr 1;omega)|simp)
  have hrl:=rL _ (ul (l:=l) (k:=i) (by omega))
  refine xx (n:=68) (w0:=w0) (M:=AY) (λ (j,G)=>[(0,sL A l cap),(3,.slice (some ⟨nR,0,none⟩) l.length l.length),(4,iL (i:Int)),(14,sL A l cap),(15,iL (l.length:Int)),(16,iL (i:Int)),(21,sL B_1 (l.getD i []) Bg),(22,iL (((l.getD i []).length:Nat):Int)),(23,iL (j:Int))]) (λ (j,G)=>((Ent.obj nR (.cells (G.map hdOf).toArray 49 (0,0)))::(bag (Value.int .i64) G++H))) (λ (x:Nat×MapRow Int) (_:Mem)=>match x with|(j,G)=>(j≤(l.getD i []).length)∧(TI l i j G)) (λ (j,G)=>(l.getD i []).length-j) (0,G) (f_14.keep (ks:=[0,3,4,14,15,16,21,22,23]) kr) p_3 ?_ ?_
  ·exact⟨Nat.zero_le _,hT⟩
  rintro⟨j,G⟩ M_2 a_13 w_3 hM_2 I_2 f_15 p_4
  replace f_15:Frm 68 [(0,sL A l cap),(3,.slice (some ⟨nR,0,none⟩) l.length l.length),(4,iL (i:Int)),(14,sL A l cap),(15,iL (l.length:Int)),(16,iL (i:Int)),(21,sL B_1 (l.getD i []) Bg),(22,iL (((l.getD i []).length:Nat):Int)),(23,iL (j:Int))] a_13:=f_15
  replace p_4:Hp w0 M_2 ((Ent.obj nR (.cells (G.map hdOf).toArray 49 (0,0)))::(bag (Value.int .i64) G++H)) w_3:=p_4
  replace I_2: (j≤(l.getD i []).length)∧(TI l i j G):=I_2
  obtain⟨hj,hT2⟩:=I_2
  have hGl2:=hT2.1
  refine cq ?_
  refine cN ?_
  refine bY f_15 1 kr (λa_14 f_16=>?_)
  refine cL rfl ?_
  refine jL ?_
  refine cq ?_
  refine xw f_16 (b:=decide ((j:Int)<(((l.getD i []).length:Nat):Int))) kr kr (λh_2=>?_) (λh_2=>?_)
  ·have k_2: (j:Int)<(((l.getD i []).length:Nat):Int):=decide_eq_true_iff.1 h_2
   refine wp_skip ?_
   refine jL ?_
   refine cq ?_
   refine wp_block ?_
   refine cq ?_
   refine cN ?_
   obtain⟨ad_2,e_2,hc_2⟩:=Ints.at_ (hi_1.mono hM_2) (i:=(j:Int)) (by omega) (by omega)
   refine ku (v:=Pa (ad_2.add ((j:Int).toNat*1))) f_16 kr (nZ e_2 rfl (len:=(l.getD i []).length) (cap:=Bg) (k:=.i64) (i:=(j:Int)) kr kr (e:=3) kr (sz:=1) kr (by omega) (by omega)) (λa_15 f_17=>?_)
   refine ku (v:=iL ((l.getD i []).getD j 0)) f_17 kr (sQ (v:=iL ((l.getD i []).getD j 0)) rfl (ad:=ad_2.add ((j:Int).toNat*1)) kr kr (p_4.cell hc_2)) (λa_16 f_18=>?_)
   refine bY f_18 1 kr (λa_17 f_19=>?_)
   refine cL rfl ?_
   refine jL ?_
   refine cq ?_
   refine cq ?_
   refine R_mid (λa_18 w_4=>Frm 68 [(0,sL A l cap),(3,.slice (some ⟨nR,0,none⟩) l.length l.length),(4,iL (i:Int)),(7,iL ((l.getD i []).getD j 0)),(14,sL A l cap),(15,iL (l.length:Int)),(16,iL (i:Int)),(21,sL B_1 (l.getD i []) Bg),(22,iL (((l.getD i []).length:Nat):Int)),(23,iL (j:Int)),(34,bO ((decide (((l.getD i []).getD j 0)<0))|| (decide ((l.length:Int)≤((l.getD i []).getD j 0)))))] a_18∧Hp w0 M_2 ((Ent.obj nR (.cells (G.map hdOf).toArray 49 (0,0)))::(bag (Value.int .i64) G++H)) w_4) ?_ ?_
   ·refine cN ?_
    refine bY f_19 3 kr (λa_19 f_21=>?_)
    rcases Bool.eq_false_or_eq_true (decide (((l.getD i []).getD j 0)<0)) with h_3|h_3
    ·have k_3: ((l.getD i []).getD j 0)<0:=decide_eq_true_iff.1 h_3
     have f_22:=Frm.set f_21 29 (v:=bO (decide (((l.getD i []).getD j 0)<0))) (v':=bO true) kr (congrArg Value.bool h_3)
     refine bY f_22 5 kr (λa_20 f_24=>?_)
     refine cL rfl ?_
     refine jL ?_
     have f_25:=Frm.set f_24 34 (v:=.bool true) (v':=.bool ((decide (((l.getD i []).getD j 0)<0))|| (decide ((l.length:Int)≤((l.getD i []).getD j 0))))) (by kernel_rfl) (by simp only[h_3,Bool.and_true,Bool.true_and,Bool.false_and,Bool.and_false,Bool.or_true,Bool.true_or,Bool.or_false,Bool.false_or,nT,nF,cond_true,cond_false])
     exact⟨f_25.keep (ks:=[0,3,4,7,14,15,16,21,22,23,34]) kr,p_4⟩
    have k_4: ¬ (((l.getD i []).getD j 0)<0):=iff_f decide_eq_true_iff h_3
    have f_26:=Frm.set f_21 29 (v:=bO (decide (((l.getD i []).getD j 0)<0))) (v':=bO false) kr (congrArg Value.bool h_3)
    refine bY f_26 5 kr (λa_21 f_28=>?_)
    refine cL rfl ?_
    refine jL ?_
    have f_29:=Frm.set f_28 34 (v:=.bool (decide ((l.length:Int)≤((l.getD i []).getD j 0)))) (v':=.bool ((decide (((l.getD i []).getD j 0)<0))|| (decide ((l.length:Int)≤((l.getD i []).getD j 0))))) (by kernel_rfl) (by simp only[h_3,Bool.and_true,Bool.true_and,Bool.false_and,Bool.and_false,Bool.or_true,Bool.true_or,Bool.or_false,Bool.false_or,nT,nF,cond_true,cond_false])
    exact⟨f_29.keep (ks:=[0,3,4,7,14,15,16,21,22,23,34]) kr,p_4⟩
   rintro a_18 w_4 ⟨f_20,p_5⟩
   refine jL ?_
   refine xw f_20 (b:=(decide (((l.getD i []).getD j 0)<0))|| (decide ((l.length:Int)≤((l.getD i []).getD j 0)))) kr kr (λh_4=>?_) (λh_4=>?_)
   ·have k_5: (((l.getD i []).getD j 0)<0)∨((l.length:Int)≤((l.getD i []).getD j 0)):=(or_iff decide_eq_true_iff decide_eq_true_iff).1 h_4
    refine wp_exit ?_
    refine T_x ?_
    refine B_x ?_
    refine jL ?_
    refine cN ?_
    refine bY f_20 1 kr (λa_22 f_30=>?_)
    have f_31:=Frm.set f_30 49 (v:=iL (IntKind.wrap .i64 ((j:Int)+1))) (v':=iL ((j:Int)+1)) kr (congrArg (Value.int .i64) (IntWalk.i64_in _ (by omega)))
    refine bY f_31 1 kr (λa_23 f_33=>?_)
    refine cL rfl ?_
    refine jL ?_
    have f_34:=Frm.set f_33 23 (v:=iL ((j:Int)+1)) (v':=iL ((j+1):Int)) kr (by first|rfl|(congr 1;omega)|simp)
    refine⟨((j+1,G):Nat×MapRow Int),?_,M_2,hM_2,?_,f_34.keep (ks:=[0,3,4,14,15,16,21,22,23]) kr,p_5⟩
    ·show(l.getD i []).length- (j+1)<(l.getD i []).length-j;omega
    exact⟨by omega,hT2.skip (by omega) (by omega)⟩
   have k_6: ¬ ((((l.getD i []).getD j 0)<0)∨((l.length:Int)≤((l.getD i []).getD j 0))):=iff_f (or_iff decide_eq_true_iff decide_eq_true_iff) h_4
   refine wp_skip ?_
   refine jL ?_
   refine cq ?_
   refine cq ?_
   refine cN ?_
   refine bY f_20 2 kr (λa_24 f_35=>?_)
   refine ku (v:=Pa ((⟨nR,0,none⟩:Addr).add (((l.getD i []).getD j 0).toNat*1))) f_35 kr (iJ rfl (ad:=⟨nR,0,none⟩) (len:=l.length) (cap:=l.length) (k:=.i64) (i:=(l.getD i []).getD j 0) kr kr (e:=49) kr (sz:=1) kr (by omega) (by omega)) (λa_25 f_36=>?_)
   have f_37:=Frm.set f_36 37 (v:=.pointer (some ((⟨nR,0,none⟩:Addr).add (((l.getD i []).getD j 0).toNat*1)))) (v':=.pointer (some (⟨nR,((l.getD i []).getD j 0).toNat,none⟩))) (by kernel_rfl) (congrArg (λa=>Value.pointer (some a)) (by rw[Nat.mul_one,Addr.add_lit];simp))
   refine ku (v:=hdOf (G.getD ((l.getD i []).getD j 0).toNat none)) f_37 kr (sQ (v:=hdOf (G.getD ((l.getD i []).getD j 0).toNat none)) rfl (ad:=⟨nR,((l.getD i []).getD j 0).toNat,none⟩) kr kr (gotCell p_5 0 rfl (by omega))) (λa_26 f_39=>?_)
   refine ku (v:=bO (G.getD ((l.getD i []).getD j 0).toNat none).isNone) f_39 kr (X_mapnil (g:=G.getD ((l.getD i []).getD j 0).toNat none) (kt:=3) (et:=4) rfl kr kr kr _) (λa_27 f_40=>?_)
   refine cL rfl ?_
   refine jL ?_
   refine xw f_40 (b:=(G.getD ((l.getD i []).getD j 0).toNat none).isNone) kr kr (λh_5=>?_) (λh_5=>?_)
   ·have hgn:G.getD ((l.getD i []).getD j 0).toNat none=none:=Option.isNone_iff_eq_none.1 h_5
    refine cN ?_
    refine bY f_40 2 kr (λa_28 f_41=>?_)
    refine W_makeMap (Value.int .i64) f_41 p_5 kr kr rfl rfl rfl (λBe w_5 p_6 a_29 f_42=>?_)
    refine ku (v:=Pa ((⟨nR,0,none⟩:Addr).add (((l.getD i []).getD j 0).toNat*1))) f_42 kr (iJ rfl (ad:=⟨nR,0,none⟩) (len:=l.length) (cap:=l.length) (k:=.i64) (i:=(l.getD i []).getD j 0) kr kr (e:=49) kr (sz:=1) kr (by omega) (by omega)) (λa_30 f_43=>?_)
    have f_44:=Frm.set f_43 43 (v:=.pointer (some ((⟨nR,0,none⟩:Addr).add (((l.getD i []).getD j 0).toNat*1)))) (v':=.pointer (some (⟨nR,((l.getD i []).getD j 0).toNat,none⟩))) (by kernel_rfl) (congrArg (λa=>Value.pointer (some a)) (by rw[Nat.mul_one,Addr.add_lit];simp))
    refine xO f_44 p_6 1 kr kr rfl rfl (b:=nR) (j:=((l.getD i []).getD j 0).toNat) (v:=.map (some Be)) kr kr rfl kr (by exact rfl) (by simp only[List.size_toArray,List.length_map];omega) (by omega) ((Ent.obj Be (mObj (Value.int .i64) []))::((Ent.obj nR (.cells ((G.map hdOf).toArray.setIfInBounds ((l.getD i []).getD j 0).toNat (.map (some Be))) 49 (0,0)))::(bag (Value.int .i64) G++H))) rfl (λw_6 p_7 a_31 f_46=>?_)
    have p_8:Hp w0 M_2 ((Ent.obj nR (.cells ((G.set ((l.getD i []).getD j 0).toNat (some (Be,[]))).map hdOf).toArray 49 (0,0)))::(bag (Value.int .i64) (G.set ((l.getD i []).getD j 0).toNat (some (Be,[])))++H)) w_6:=Hp.bagNew p_7 (by omega) hgn
    have hg: (G.set ((l.getD i []).getD j 0).toNat (some (Be,[]))).getD ((l.getD i []).getD j 0).toNat none=some (Be,[]):=Vc.getD_set_self (by omega)
    refine cL rfl ?_
    refine jL ?_
    refine cN ?_
    refine bY f_46 2 kr (λa_32 f_47=>?_)
    refine ku (v:=Pa ((⟨nR,0,none⟩:Addr).add (((l.getD i []).getD j 0).toNat*1))) f_47 kr (iJ rfl (ad:=⟨nR,0,none⟩) (len:=l.length) (cap:=l.length) (k:=.i64) (i:=(l.getD i []).getD j 0) kr kr (e:=49) kr (sz:=1) kr (by omega) (by omega)) (λa_33 f_48=>?_)
    have f_49:=Frm.set f_48 46 (v:=.pointer (some ((⟨nR,0,none⟩:Addr).add (((l.getD i []).getD j 0).toNat*1)))) (v':=.pointer (some (⟨nR,((l.getD i []).getD j 0).toNat,none⟩))) (by kernel_rfl) (congrArg (λa=>Value.pointer (some a)) (by rw[Nat.mul_one,Addr.add_lit];simp))
    refine ku (v:=.map (some Be)) f_49 kr (sQ (v:=.map (some Be)) rfl (ad:=⟨nR,((l.getD i []).getD j 0).toNat,none⟩) kr kr ((gotCell p_8 0 rfl (by first|omega|(simp only[List.length_set];omega))).trans (by rw[hg];rfl))) (λa_34 f_51=>?_)
    refine bY f_51 1 kr (λa_35 f_52=>?_)
    refine zp (enc:=(Value.int .i64)) (kt:=3) (et:=4) (k:=(i:Int)) (v:=bO true) f_52 p_8 hg kr kr rfl (.inl rfl) kr kr kr kr (intKey (k:=.i64) kr) (λw_7 p_9 a_36 f_53=>?_)
    refine cL rfl ?_
    refine B_n ?_
    refine jL ?_
    refine cN ?_
    refine bY f_53 1 kr (λa_37 f_54=>?_)
    have f_55:=Frm.set f_54 49 (v:=iL (IntKind.wrap .i64 ((j:Int)+1))) (v':=iL ((j:Int)+1)) kr (congrArg (Value.int .i64) (IntWalk.i64_in _ (by omega)))
    refine bY f_55 1 kr (λa_38 f_57=>?_)
    refine cL rfl ?_
    refine jL ?_
    have f_58:=Frm.set f_57 23 (v:=iL ((j:Int)+1)) (v':=iL ((j+1):Int)) kr (by first|rfl|(congr 1;omega)|simp)
    refine⟨((j+1,(G.set ((l.getD i []).getD j 0).toNat (some (Be,[]))).set ((l.getD i []).getD j 0).toNat (some (Be,updM [] (i:Int) (bO true)))):Nat×MapRow Int),?_,M_2,hM_2,?_,f_58.keep (ks:=[0,3,4,14,15,16,21,22,23]) kr,p_9⟩
    ·show(l.getD i []).length- (j+1)<(l.getD i []).length-j;omega
    exact⟨by omega,hT2.put (by omega) (by omega) (by simp) (λk hk=>by rw[Vc.getD_set_ne hk,Vc.getD_set_ne hk]) (by rw[Vc.getD_set_self (by simp only[List.length_set];omega),hgn];exact keys_upd [] _ _)⟩
   refine wp_skip ?_
   refine jL ?_
   obtain⟨bo,mo,hg⟩: ∃b m,G.getD ((l.getD i []).getD j 0).toNat none=some (b,m):=by
    cases hq:G.getD ((l.getD i []).getD j 0).toNat none with
    |none=>rw[hq] at h_5;cases h_5
    |some q=>exact⟨q.1,q.2,rfl⟩
   refine cN ?_
   refine bY f_40 2 kr (λa_39 f_59=>?_)
   refine ku (v:=Pa ((⟨nR,0,none⟩:Addr).add (((l.getD i []).getD j 0).toNat*1))) f_59 kr (iJ rfl (ad:=⟨nR,0,none⟩) (len:=l.length) (cap:=l.length) (k:=.i64) (i:=(l.getD i []).getD j 0) kr kr (e:=49) kr (sz:=1) kr (by omega) (by omega)) (λa_40 f_60=>?_)
   have f_61:=Frm.set f_60 46 (v:=.pointer (some ((⟨nR,0,none⟩:Addr).add (((l.getD i []).getD j 0).toNat*1)))) (v':=.pointer (some (⟨nR,((l.getD i []).getD j 0).toNat,none⟩))) (by kernel_rfl) (congrArg (λa=>Value.pointer (some a)) (by rw[Nat.mul_one,Addr.add_lit];simp))
   refine ku (v:=.map (some bo)) f_61 kr (sQ (v:=.map (some bo)) rfl (ad:=⟨nR,((l.getD i []).getD j 0).toNat,none⟩) kr kr ((gotCell p_5 0 rfl (by first|omega|(simp only[List.length_set];omega))).trans (by rw[hg];rfl))) (λa_41 f_63=>?_)
   refine bY f_63 1 kr (λa_42 f_64=>?_)
   refine zp (enc:=(Value.int .i64)) (kt:=3) (et:=4) (k:=(i:Int)) (v:=bO true) f_64 p_5 hg kr kr rfl (.inl rfl) kr kr kr kr (intKey (k:=.i64) kr) (λw_8 p_10 a_43 f_65=>?_)
   refine cL rfl ?_
   refine B_n ?_
   refine jL ?_
   refine cN ?_
   refine bY f_65 1 kr (λa_44 f_66=>?_)
   have f_67:=Frm.set f_66 49 (v:=iL (IntKind.wrap .i64 ((j:Int)+1))) (v':=iL ((j:Int)+1)) kr (congrArg (Value.int .i64) (IntWalk.i64_in _ (by omega)))
   refine bY f_67 1 kr (λa_45 f_69=>?_)
   refine cL rfl ?_
   refine jL ?_
   have f_70:=Frm.set f_69 23 (v:=iL ((j:Int)+1)) (v':=iL ((j+1):Int)) kr (by first|rfl|(congr 1;omega)|simp)
   refine⟨((j+1,G.set ((l.getD i []).getD j 0).toNat (some (bo,updM mo (i:Int) (bO true)))):Nat×MapRow Int),?_,M_2,hM_2,?_,f_70.keep (ks:=[0,3,4,14,15,16,21,22,23]) kr,p_10⟩
   ·show(l.getD i []).length- (j+1)<(l.getD i []).length-j;omega
   exact⟨by omega,hT2.put (by omega) (by omega) (by simp) (λk hk=>Vc.getD_set_ne hk) (by rw[Vc.getD_set_self (by omega),hg];exact keys_upd mo _ _)⟩
  have k_9: ¬ ((j:Int)<(((l.getD i []).length:Nat):Int)):=iff_f decide_eq_true_iff h_2
  refine wp_exit ?_
  refine T_x ?_
  refine T_x ?_
  refine B_x ?_
  refine B_n ?_
  refine jL ?_
  refine cN ?_
  refine bY f_16 1 kr (λa_46 f_71=>?_)
  have f_72:=Frm.set f_71 50 (v:=iL (IntKind.wrap .i64 ((i:Int)+1))) (v':=iL ((i:Int)+1)) kr (congrArg (Value.int .i64) (IntWalk.i64_in _ (by omega)))
  refine bY f_72 1 kr (λa_47 f_74=>?_)
  refine cL rfl ?_
  refine jL ?_
  have f_75:=Frm.set f_74 16 (v:=iL ((i:Int)+1)) (v':=iL ((i+1):Int)) kr (by first|rfl|(congr 1;omega)|simp)
  refine⟨((i+1,G):Nat×MapRow Int),?_,M_2,(wH.trans hM_2),?_,f_75.keep (ks:=[0,3,14,15,16]) kr,p_4⟩
  ·show l.length- (i+1)<l.length-i;omega
  exact⟨by omega,hT2.row (by omega)⟩
 have k_10: ¬ ((i:Int)<(l.length:Int)):=iff_f decide_eq_true_iff h_1
 refine wp_exit ?_
 refine T_x ?_
 refine T_x ?_
 refine B_x ?_
 refine jL ?_
 refine cq ?_
 obtain⟨kf_1,pf_1⟩:=p_3.freeze
 obtain⟨M_3,hM_3,p_11,hbag_1⟩:=Hp.bagKnown pf_1
 have hgot_1: ∀k,k<l.length→M_3.cell? ⟨nR,k,none⟩=some (hdOf (G.getD k none)):=λk hk=>hM_3.cell (by rw[mz];simp[List.getD,hGl,hk])
 have hie:i=l.length:=by omega
 subst hie
 refine cN ?_
 refine bY f_8 2 kr (λa_48 f_76=>?_)
 refine W_make (m:=l.length) (z:=qN) (bytes:=24) (e:=47) f_76 p_11 kr kr rfl rfl rfl kr kr kr kr rfl (by omega) (by omega) (λb_2 w_9 p_12 a_49 f_77=>?_)
 refine bY f_77 1 kr (λa_50 f_78=>?_)
 refine cL rfl ?_
 refine jL ?_
 refine cq ?_
 refine cq ?_
 refine cN ?_
 refine bY f_78 3 kr (λa_51 f_79=>?_)
 refine cL rfl ?_
 refine jL ?_
 refine wp_block ?_
 have f_80:=Frm.set f_79 56 (v:=iL 0) (v':=iL (0:Int)) kr (by first|rfl|(congr 1;omega)|simp)
 refine xx (n:=68) (w0:=w0) (M:=M_3) (λ (k,O)=>[(8,.slice (some ⟨b_2,0,none⟩) l.length l.length),(54,.slice (some ⟨nR,0,none⟩) l.length l.length),(55,iL (l.length:Int)),(56,iL (k:Int))]) (λ (k,O)=>((Ent.obj b_2 (.cells O.toArray 47 (0,0)))::H)) (λ (x:Nat×Lv) (M_4:Mem)=>match x with|(k,O)=>(k≤l.length)∧(O.length=l.length)∧(∀q,q<k→IntRow M_4 .i64 (O.getD q undef) ((turnedL l).getD q []))) (λ (k,O)=>l.length-k) (0,List.replicate l.length qN) (f_80.keep (ks:=[8,54,55,56]) kr) p_12 ?_ ?_
 ·exact⟨Nat.zero_le _,by simp,lt_zero⟩
 rintro⟨k,O⟩ M_4 a_52 w_10 hM_4 I_3 f_81 p_13
 replace f_81:Frm 68 [(8,.slice (some ⟨b_2,0,none⟩) l.length l.length),(54,.slice (some ⟨nR,0,none⟩) l.length l.length),(55,iL (l.length:Int)),(56,iL (k:Int))] a_52:=f_81
 replace p_13:Hp w0 M_4 ((Ent.obj b_2 (.cells O.toArray 47 (0,0)))::H) w_10:=p_13
 replace I_3: (k≤l.length)∧(O.length=l.length)∧(∀q,q<k→IntRow M_4 .i64 (O.getD q undef) ((turnedL l).getD q [])):=I_3
 obtain⟨hk,hOl,hO⟩:=I_3
 refine cq ?_
 refine cN ?_
 refine bY f_81 1 kr (λa_53 f_82=>?_)
 refine cL rfl ?_
 refine jL ?_
 refine cq ?_
 refine xw f_82 (b:=decide ((k:Int)<(l.length:Int))) kr kr (λh_6=>?_) (λh_6=>?_)
 ·have k_11: (k:Int)<(l.length:Int):=decide_eq_true_iff.1 h_6
  refine wp_skip ?_
  refine jL ?_
  refine cq ?_
  refine wp_block ?_
  refine cq ?_
  refine cN ?_
  refine bY f_82 1 kr (λa_54 f_83=>?_)
  refine ku (v:=Pa ((⟨nR,0,none⟩:Addr).add ((k:Int).toNat*1))) f_83 kr (iJ rfl (ad:=⟨nR,0,none⟩) (len:=l.length) (cap:=l.length) (k:=.i64) (i:=(k:Int)) kr kr (e:=49) kr (sz:=1) kr (by omega) (by omega)) (λa_55 f_84=>?_)
  have f_85:=Frm.set f_84 59 (v:=.pointer (some ((⟨nR,0,none⟩:Addr).add ((k:Int).toNat*1)))) (v':=.pointer (some (⟨nR,k,none⟩))) (by kernel_rfl) (congrArg (λa=>Value.pointer (some a)) (by rw[Nat.mul_one,Addr.add_lit];simp))
  refine ku (v:=hdOf (G.getD k none)) f_85 kr (sQ (v:=hdOf (G.getD k none)) rfl (ad:=⟨nR,k,none⟩) kr kr (p_13.cell (hM_4.cell (hgot_1 _ (by omega))))) (λa_56 f_87=>?_)
  refine bY f_87 2 kr (λa_57 f_88=>?_)
  refine cL rfl ?_
  refine jL ?_
  refine cN ?_
  refine bY f_88 3 kr (λa_58 f_89=>?_)
  refine W_ok f_89 p_13 kr kr rfl rfl (λ_=>by kernel_rfl) (risingAny_ok _ (G.getD k none) (λb m e=>hM_4 _ _ (hbag_1 b m (memOf (by omega) e))) (Nat.le_trans (hT.len (by omega)) lL)) (λv_1 M_5 w_11 hM_5 p_14 Ak a_59 f_90=>?_)
  obtain⟨A_1,cap_2,rfl,hcap_2,hi_2,hnew_1⟩:=Ak
  refine ku (v:=Pa ((⟨b_2,0,none⟩:Addr).add ((k:Int).toNat*1))) f_90 kr (iJ rfl (ad:=⟨b_2,0,none⟩) (len:=l.length) (cap:=l.length) (k:=.i64) (i:=(k:Int)) kr kr (e:=47) kr (sz:=1) kr (by omega) (by omega)) (λa_60 f_91=>?_)
  have f_92:=Frm.set f_91 65 (v:=.pointer (some ((⟨b_2,0,none⟩:Addr).add ((k:Int).toNat*1)))) (v':=.pointer (some (⟨b_2,k,none⟩))) (by kernel_rfl) (congrArg (λa=>Value.pointer (some a)) (by rw[Nat.mul_one,Addr.add_lit];simp))
  refine xO f_92 p_14 0 kr kr rfl rfl (b:=b_2) (j:=k) (v:=sL A_1 (rise (keysOf (G.getD k none))) cap_2) kr kr rfl kr (by exact rfl) (by simp only[List.size_toArray];omega) (by omega) _ rfl (λw_12 p_15 a_61 f_94=>?_)
  have p_16:Hp w0 M_5 ((Ent.obj b_2 (.cells (O.set k (sL A_1 (rise (keysOf (G.getD k none))) cap_2)).toArray 47 (0,0)))::H) w_12:=by simpa using p_15
  refine cL rfl ?_
  refine B_n ?_
  refine jL ?_
  refine cN ?_
  refine bY f_94 1 kr (λa_62 f_95=>?_)
  have f_96:=Frm.set f_95 66 (v:=iL (IntKind.wrap .i64 ((k:Int)+1))) (v':=iL ((k:Int)+1)) kr (congrArg (Value.int .i64) (IntWalk.i64_in _ (by omega)))
  refine bY f_96 1 kr (λa_63 f_98=>?_)
  refine cL rfl ?_
  refine jL ?_
  have f_99:=Frm.set f_98 56 (v:=iL ((k:Int)+1)) (v':=iL ((k+1):Int)) kr (by first|rfl|(congr 1;omega)|simp)
  refine⟨((k+1,O.set k (sL A_1 (rise (keysOf (G.getD k none))) cap_2)):Nat×Lv),?_,M_5,(hM_4.trans hM_5),?_,f_99.keep (ks:=[8,54,55,56]) kr,p_16⟩
  ·show l.length- (k+1)<l.length-k;omega
  exact⟨by omega,by simp only[List.length_set];omega,outStep (by omega) (λq hq=>(hO q hq).mono hM_5) (hT.done (k:=k) (by omega)▸ ⟨_,_,rfl,by assumption,hi_2⟩)⟩
 have k_12: ¬ ((k:Int)<(l.length:Int)):=iff_f decide_eq_true_iff h_6
 refine wp_exit ?_
 refine T_x ?_
 refine T_x ?_
 refine B_x ?_
 refine jL ?_
 refine cq ?_
 refine cN ?_
 refine bY f_82 2 kr (λa_64 f_100=>?_)
 refine cL rfl ?_
 refine jL ?_
 refine wp_ret ?_
 refine oR f_100 rfl (Lk 2 (.slice (some ⟨b_2,0,none⟩) l.length l.length)) ?_
 obtain⟨k9,p9⟩:=p_13.freeze
 refine⟨_,rfl,_,((wH.trans (kf_1.trans hM_3)).trans hM_4).trans k9,p9,_,by rw[qs],O,by rw[qs];exact hOl,.inr ⟨_,rfl,λq u hq=>?_⟩,λq hq=>(hO q (by rw[qs] at hq;omega)).mono k9⟩
 rw[Addr.add_lit,mz];simpa using hq
end Go.Proofs.YtkmbfmdhoeibhaaGreat
end
section
namespace Go.Vc
open Go Go.RowKit
theorem RepArr.mk {M:Mem} {sz:Nat}: ∀ {ds:List Dat} {ad:Addr},(∀i d,ds[i]? =some d→∃c,c.length=sz∧Rep M d c∧∀j v,c[j]? =some v→M.cell? ((ad.add (i*sz)).add j)=some v)→RepArr M sz ds ad
 |[],_,_=>trivial
 |d::ds,ad,h=>by
  refine⟨?_,RepArr.mk λi e he=>?_⟩
  ·have:=h 0 d rfl
   simpa [Addr.add] using this
  obtain⟨c,h1,h2,h3⟩:=h (i+1) e (by simpa using he)
  refine⟨c,h1,h2,λj v hv=>?_⟩
  have:=h3 j v hv
  rw[dg] at this
  rw[dg,dg,show sz+ (i*sz+j)=(i+1)*sz+j by rw[Nat.add_mul];omega]
  exact this
theorem sli_ints {M:Mem} {k:IntKind} {A:Oa} {cap:Nat} {xs:CD} (h:Sli M 1 (Dat.int k) A cap xs):Ints M k A xs:=by
 obtain⟨_,_,h3⟩:=h
 rcases h3 with h3|⟨ad,h4,h5⟩
 ·exact .inl (by simp[h3])
 refine .inr ⟨ad,h4,λj v hv=>?_⟩
 obtain⟨x,hx,rfl⟩: ∃x,xs[j]? =some x∧Value.int k x=v:=by simpa using hv
 obtain⟨c,k1,k2,k3⟩:=RepArr.get j (.int k x) h5 (by simp[hx])
 obtain rfl:c=_:=k2
 have:=k3 0 _ rfl
 rwa [dg,Nat.mul_one,Nat.add_zero] at this
theorem ints_sli {M:Mem} {k:IntKind} {A:Oa} {cap:Nat} {xs:CD} (h:Ints M k A xs) (h1:xs.length≤cap) (h2:A=none→cap=0):Sli M 1 (Dat.int k) A cap xs:=by
 refine⟨h1,h2,?_⟩
 rcases h with h|⟨ad,h4,h5⟩
 ·exact .inl (by simpa using h)
 refine .inr ⟨ad,h4,RepArr.mk λi d hd=>?_⟩
 obtain⟨x,hx,rfl⟩: ∃x,xs[i]? =some x∧Dat.int k x=d:=by simpa using hd
 refine⟨[.int k x],rfl,rfl,λj v hv=>?_⟩
 cases j with
 |zero=>
  simp at hv;subst hv
  rw[dg,Nat.mul_one,Nat.add_zero]
  exact h5 i _ (by simp[hx])
 |succ j=>simp at hv
theorem sli_rows {M:Mem} {k:IntKind} {A:Oa} {cap:Nat} {l:List CD} (h:Sli M 1 (eL 1 (Dat.int k)) A cap l):Vc.Rows M k A l:=by
 obtain⟨h1,h2,h3⟩:=h
 rcases h3 with h3|⟨ad,h4,h5⟩
 ·subst h3;exact⟨[],rfl,.inl rfl,λi hi=>by simp at hi⟩
 obtain⟨cs,k1,k2,k3⟩:=RepArr.cells h5
 refine⟨cs,by simpa using k1,.inr ⟨ad,h4,k3⟩,λi hi=>?_⟩
 have hx:l[i]? =some (l.getD i []):=by simp[List.getD,hi]
 obtain⟨e,e1,e2,e3⟩:=au.get (sz:=1) i (d:=eL 1 (Dat.int k) (l.getD i [])) (λd hd=>by obtain⟨x,_,rfl⟩:=List.mem_map.1 hd;exact szd_list _ _) k2 (by rw[List.getElem?_map,hx];rfl)
 obtain⟨B,c,rfl,hs⟩:=Rep.sli e2
 have:=e3 0 _ rfl
 rw[Nat.mul_one,Nat.add_zero] at this
 refine⟨B,c,by rw[List.getD_eq_getElem?_getD,this];rfl,⟨hs.1,hs.2.1⟩,sli_ints hs⟩
theorem rows_sli {M:Mem} {k:IntKind} {A:Oa} {cap:Nat} {l:List CD} (h:Vc.Rows M k A l) (h1:l.length≤cap) (h2:A=none→cap=0):Sli M 1 (eL 1 (Dat.int k)) A cap l:=by
 refine⟨h1,h2,?_⟩
 obtain⟨hs,e1,e2,e3⟩:=h
 rcases e2 with e2|⟨ad,h4,h5⟩
 ·exact .inl (List.eq_nil_of_length_eq_zero (by rw[←e1,e2];rfl))
 refine .inr ⟨ad,h4,RepArr.mk λi d hd=>?_⟩
 obtain⟨x,hx,rfl⟩: ∃x,l[i]? =some x∧eL 1 (Dat.int k) x=d:=by simpa using hd
 have hi:i<l.length:=(List.getElem?_eq_some_iff.1 hx).1
 have hxe:l.getD i []=x:=by simp[List.getD,hx]
 obtain⟨B,c,g1,g2,g3⟩:=e3 i hi
 rw[hxe] at g1 g2 g3
 refine⟨[.slice B x.length c],rfl,(ints_sli g3 g2.1 g2.2).rep,λj v hv=>?_⟩
 cases j with
 |zero=>
  simp at hv;subst hv
  rw[dg,Nat.mul_one,Nat.add_zero]
  refine h5 i _ ?_
  have hih:i<hs.length:=by omega
  rw[List.getD_eq_getElem?_getD,List.getElem?_eq_getElem hih] at g1
  rw[List.getElem?_eq_getElem hih];exact congrArg some g1
 |succ j=>simp at hv
end Go.Vc
namespace Go.Proofs.YtkmbfmdhoeibhaaGreat
open Go Go.Vc Go.RowKit
def mA (_:Nat) (l:List CD):Option (List CD):=ar (l.length≤1099511627776∧∀r∈l,r.length≤1099511627776) (some (turnedL l))
variable (n:Nat)
theorem Bj (M:Mem) (A0:Oa) (cap0:Nat) (d0:List CD) (h0:Sli M 1 (eL 1 (Dat.int .i64)) A0 cap0 d0) (r:List CD) (hF:mA n d0=some r):
 Ok Tryz.prog M 140 [sL A0 d0 cap0] (λM' v=>∃ (A0:Oa) (k0:Nat),v=sL A0 r k0∧Sli M' 1 (eL 1 (Dat.int .i64)) A0 k0 r):=by
 unfold mA at hF
 obtain⟨⟨g1,g2⟩,hF⟩:=eZ hF
 obtain rfl:=(Option.some.inj hF).symm
 refine(turned_ok M A0 d0 cap0 (sli_rows h0) g1 g2).mono λM' v hM hv=>?_
 obtain⟨ad,rfl,hr⟩:=hv
 exact⟨some ad,_,rfl,rows_sli hr (Nat.le_refl _) (λe=>by cases e)⟩
end Go.Proofs.YtkmbfmdhoeibhaaGreat
end
section
namespace Go.Proofs.YtkmbfmdhoeibhaaGreat
open Go Go.Vc Go.RowKit
open Go.Ck
def qy (n:Nat) (d0:Int) (d1:List CD):Option Bool:=bif decide (d0<0) then some (true) else some (decide ((d1.length:Int)≤d0))
variable (n:Nat)
theorem ready_May_1_C (d0:Int) (d1:List CD) (z:Zs):oK ([.kn (z 0).ad ((tL 1 (eL 1 (Dat.int .i64))).cells d1 (sh 1 z)),.sli 1 (eL 1 (Dat.int .i64)) (z 1).A (z 1).c d1]) [] 138 [.int .i64 d0,.pointer (some (z 0).ad)] (qy n d0 d1) (λr y=>⟨.bool r,[],[]⟩):=
 fn 12 Tryz.func138 (bs [] 6 (rt []) (rt [K 0 0]))
def eO (d0:CD) (jR:List CD) (K1:Int):Option (Lp Int (Sum Int Unit)):=bif decide (K1<(d0.length:Int)) then(aq d0 K1).bind λX1=>(qy n X1 jR).bind λX3=>bif X3 then some (.br (.inl K1)) else ar (inR .i64 (K1+1))<|some (.nx (K1+1)) else some (.br (.inr ()))
def gS (d0:CD) (jR:List CD):Option Int:=(av (eO n d0 jR) n (0:Int)).bind λQ1=>(match Q1 with|.inl G1=>some (G1)|.inr G2=>some (-1:Int))
theorem qt (d0:CD) (jR:List CD) (z:Zs):oK ([sX 1 (Dat.int .i64) (z 0) d0,.kn (z 1).ad ((tL 1 (eL 1 (Dat.int .i64))).cells jR (sh 2 z)),.sli 1 (eL 1 (Dat.int .i64)) (z 2).A (z 2).c jR]) [] 190 [wX (z 0) d0,.func (.func 138) #[] #[.pointer (some (z 1).ad)]] (gS n d0 jR) (λr y=>⟨.int .i64 r,[],[]⟩):=
 fn 19 Tryz.func190 (lp [] {} (λK1 _ _=>{L:=[(8,.int .i64 K1)],ks:=[0,1,7]}) (λx z b=>match x with|.inl G1=>{e:=.ret,L:=[(4,.int .i64 G1)]}|.inr G2=>{e:=.exit 0}) (λK1=>br [] (ob (λX1 X2=>ob (λ_ X4=>br [I 0 3 (tI .i64) X2,K 3 0,C (ready_May_1_C n X1 jR) X4 [1,2] [] 4] (rt []) (nd (λO1=>rt [wr 18 O1]))))) (rt [])) (kS (kA λ_=>rt []) (kA λ_=>rt [])))
def dy (d0:CD) (jR:List CD):Option Bool:=(gS n d0 jR).bind λX1=>some (decide ((0:Int)≤X1))
theorem nQ (d0:CD) (jR:List CD) (z:Zs):oK ([sX 1 (Dat.int .i64) (z 0) d0,.kn (z 1).ad ((tL 1 (eL 1 (Dat.int .i64))).cells jR (sh 2 z)),.sli 1 (eL 1 (Dat.int .i64)) (z 2).A (z 2).c jR]) [] 137 [wX (z 0) d0,.func (.func 138) #[] #[.pointer (some (z 1).ad)]] (dy n d0 jR) (λr y=>⟨.bool r,[],[]⟩):=
 fn 9 Tryz.func137 (ob (λ_ X2=>rt [C (qt n d0 jR) X2 [0,1,2] [] 3]))
def kD (d0:List CD) (d1:CD) (K1:Int):Option (Lp Int (Sum Unit Unit)):=bif decide (K1<(d0.length:Int)) then(aq d0 K1).bind λX1=>(aq d1 K1).bind λX3=>bif decide (X3<0) then some (.br (.inl ())) else(aq d1 K1).bind λX5=>bif decide ((5:Int)<X5) then some (.br (.inl ())) else(dy n X1 d0).bind λX7=>bif X7 then some (.br (.inl ())) else ar (inR .i64 (K1+1))<|some (.nx (K1+1)) else some (.br (.inr ()))
def sx (d0:List CD) (d1:CD):Option Bool:=bif !(decide ((d0.length:Int)=(d1.length:Int))) then some (false) else(av (kD n d0 d1) n (0:Int)).bind λQ2=>(match Q2 with|.inl G1=>some (false)|.inr G2=>some (true))
theorem zD (d0:List CD) (d1:CD) (z:Zs):oK ([.sli 1 (eL 1 (Dat.int .i64)) (z 0).A (z 0).c d0,sX 1 (Dat.int .i8) (z 1) d1]) [] 74 [wX (z 0) d0,wX (z 1) d1] (sx n d0 d1) (λr y=>⟨.bool r,[],[]⟩):=
 fn 37 Tryz.func74 (br [bx 2,K 2 0] (rt []) (lp [K 2 0] {} (λK1 _ _=>{L:=[(14,.int .i64 K1)],ks:=[1,2,12,13]}) (λx z b=>match x with|.inl G1=>{e:=.ret,L:=[(4,.bool false)]}|.inr G2=>{e:=.exit 0}) (λK1=>br [] (ob (λX1 X2=>ob (λ_ X4=>bs [I 0 3 (tL 1 (Dat.int .i64)) X2,K 3 0,I 1 5 (tI .i8) X4,K 5 0] 24 (rt [cd true]) (ob (λ_ X6=>bs [I 1 6 (tI .i8) X6,K 6 0] 31 (rt [cd true]) (ob (λ_ X8=>br [C (nQ n X1 d0) X8 [4,2,0] [] 7] (rt []) (nd (λO1=>rt [wr 36 O1]))))))))) (rt [])) (kS (kA λ_=>rt []) (kA λ_=>rt []))))
theorem deps_Turned_C (d0:List CD) (z:Zs):oK ([.sli 1 (eL 1 (Dat.int .i64)) (z 0).A (z 0).c d0]) [] 140 [wX (z 0) d0] (mA n d0) (λr y=>⟨(y 0).sl r.length,[],[.sli 1 (eL 1 (Dat.int .i64)) (y 0).A (y 0).c r]⟩):=λM hF r hr=>Ok.turnL (Bj n M _ _ d0 (Fh.sli hF (by simp)) r hr)
def pf (d0:List CD) (d1:Bool):Option (List CD):=bif d1 then(mA n d0).bind λX1=>some (X1) else some (d0)
theorem ya (d0:List CD) (d1:Bool) (z:Zs):oK ([.sli 1 (eL 1 (Dat.int .i64)) (z 0).A (z 0).c d0]) [] 76 [wX (z 0) d0,.bool d1] (pf n d0 d1) (λr y=>⟨(y 0).sl r.length,[],[.sli 1 (eL 1 (Dat.int .i64)) (y 0).A (y 0).c r]⟩):=
 fn 9 Tryz.func76 (br [] (ob (λ_ X2=>rt [C (deps_Turned_C n d0) X2 [0] [] 1] {is:=[1]})) (rt [] {is:=[0]}))
def xF (n:Nat) (d0:Int):Option Bool:=bif decide (d0=0) then some (true) else some (decide (d0=3))
theorem ready_lets_C (d0:Int) (z:Zs):oK ([]) [] 77 [.int .i8 d0] (xF n d0) (λr y=>⟨.bool r,[],[]⟩):=
 fn 9 Tryz.func77 (bs [] 5 (rt []) (rt []))
def tg (d0:Int) (d2:CD):Option Bool:=(aq d2 d0).bind λX1=>(xF n X1).bind λX3=>some (X3)
theorem BH (d0:Int) (d2:CD) (z:Zs):oK ([.kn (z 0).ad [.func (.func 77) #[] #[]],.kn (z 1).ad ((tL 1 (Dat.int .i8)).cells d2 (sh 2 z)),sX 1 (Dat.int .i8) (z 2) d2]) [] 139 [.int .i64 d0,.pointer (some (z 0).ad),.pointer (some (z 1).ad)] (tg n d0 d2) (λr y=>⟨.bool r,[],[]⟩):=
 fn 11 Tryz.func139 (ob (λX1 X2=>ob (λ_ X4=>rt [Ie 2 3 (tI .i8) X2,K 0 0,K 1 0,X 4,K 3 0,C (ready_lets_C n X1) X4 [] [] 5])))
def rl (d0:Int) (d1_f_1:CD):Option Bool:=(tg n d0 d1_f_1).bind λX1=>some (!X1)
theorem Am (d0:Int) (d1_f_1:CD) (z:Zs):oK ([.kn (z 0).ad [.func (.func 139) #[] #[.pointer (some (z 1).ad),.pointer (some (z 2).ad)]],.kn (z 1).ad [.func (.func 77) #[] #[]],.kn (z 2).ad ((tL 1 (Dat.int .i8)).cells d1_f_1 (sh 3 z)),sX 1 (Dat.int .i8) (z 3) d1_f_1]) [] 141 [.int .i64 d0,.pointer (some (z 0).ad)] (rl n d0 d1_f_1) (λr y=>⟨.bool r,[],[]⟩):=
 fn 8 Tryz.func141 (ob (λ_ X2=>rt [K 0 0,C (BH n d0 d1_f_1) X2 [1,2,3] [] 4]))
def dX (d0:CD) (eC:CD) (K1:Int):Option (Lp Int (Sum Int Unit)):=bif decide (K1<(d0.length:Int)) then(aq d0 K1).bind λX1=>(rl n X1 eC).bind λX3=>bif X3 then some (.br (.inl K1)) else ar (inR .i64 (K1+1))<|some (.nx (K1+1)) else some (.br (.inr ()))
def eW (d0:CD) (eC:CD):Option Int:=(av (dX n d0 eC) n (0:Int)).bind λQ1=>(match Q1 with|.inl G1=>some (G1)|.inr G2=>some (-1:Int))
theorem oO (d0:CD) (eC:CD) (z:Zs):oK ([sX 1 (Dat.int .i64) (z 0) d0,.kn (z 1).ad [.func (.func 139) #[] #[.pointer (some (z 2).ad),.pointer (some (z 3).ad)]],.kn (z 2).ad [.func (.func 77) #[] #[]],.kn (z 3).ad ((tL 1 (Dat.int .i8)).cells eC (sh 4 z)),sX 1 (Dat.int .i8) (z 4) eC]) [] 190 [wX (z 0) d0,.func (.func 141) #[] #[.pointer (some (z 1).ad)]] (eW n d0 eC) (λr y=>⟨.int .i64 r,[],[]⟩):=
 fn 19 Tryz.func190 (lp [] {} (λK1 _ _=>{L:=[(8,.int .i64 K1)],ks:=[0,1,7]}) (λx z b=>match x with|.inl G1=>{e:=.ret,L:=[(4,.int .i64 G1)]}|.inr G2=>{e:=.exit 0}) (λK1=>br [] (ob (λX1 X2=>ob (λ_ X4=>br [I 0 5 (tI .i64) X2,K 5 0,C (Am n X1 eC) X4 [1,2,3,4] [] 6] (rt []) (nd (λO1=>rt [wr 18 O1]))))) (rt [])) (kS (kA λ_=>rt []) (kA λ_=>rt [])))
def de (d0:CD) (eC:CD):Option Bool:=(eW n d0 eC).bind λX1=>some (decide ((0:Int)≤X1))
theorem lS (d0:CD) (eC:CD) (z:Zs):oK ([sX 1 (Dat.int .i64) (z 0) d0,.kn (z 1).ad [.func (.func 139) #[] #[.pointer (some (z 2).ad),.pointer (some (z 3).ad)]],.kn (z 2).ad [.func (.func 77) #[] #[]],.kn (z 3).ad ((tL 1 (Dat.int .i8)).cells eC (sh 4 z)),sX 1 (Dat.int .i8) (z 4) eC]) [] 137 [wX (z 0) d0,.func (.func 141) #[] #[.pointer (some (z 1).ad)]] (de n d0 eC) (λr y=>⟨.bool r,[],[]⟩):=
 fn 9 Tryz.func137 (ob (λ_ X2=>rt [C (oO n d0 eC) X2 [0,1,2,3,4] [] 5]))
def qA (d0:CD) (ip:CD):Option Bool:=(de n d0 ip).bind λX1=>some (!X1)
theorem ready_every_C (d0:CD) (ip:CD) (z:Zs):oK ([sX 1 (Dat.int .i64) (z 0) d0,.kn (z 1).ad [.func (.func 77) #[] #[]],.kn (z 2).ad ((tL 1 (Dat.int .i8)).cells ip (sh 3 z)),sX 1 (Dat.int .i8) (z 3) ip]) [] 78 [wX (z 0) d0,.func (.func 139) #[] #[.pointer (some (z 1).ad),.pointer (some (z 2).ad)]] (qA n d0 ip) (λr y=>⟨.bool r,[],[]⟩):=
 fn 9 Tryz.func78 (ob (λ_ X2=>rt [bx 4,C (lS n d0 ip) X2 [0,4,1,2,3] [] 5]))
def rm (d0:List CD) (d1:CD) (K1:CD×Int):Option (Lp (CD×Int) CD):=bif decide (K1.2<(d1.length:Int)) then(aq d1 K1.2).bind λX1=>(bif decide (X1=1) then(aq d0 K1.2).bind λX3=>(qA n X3 d1).bind λX5=>some (X5) else some (false):Option Bool).bind λG1=>bif G1 then ar ((K1.1.length+1)*8≤140737488355328)<|ar (inR .i64 (K1.2+1))<|some (.nx (K1.1++[K1.2],K1.2+1)) else ar (inR .i64 (K1.2+1))<|some (.nx (K1.1,K1.2+1)) else some (.br K1.1)
def tf (d0:List CD) (d1:CD):Option CD:=(av (rm n d0 d1) n (([]:CD),(0:Int))).bind λG2=>some (G2)
theorem ready_over_C (d0:List CD) (d1:CD) (z:Zs):oK ([.sli 1 (eL 1 (Dat.int .i64)) (z 0).A (z 0).c d0,sX 1 (Dat.int .i8) (z 1) d1]) [] 75 [wX (z 0) d0,wX (z 1) d1,.func (.func 77) #[] #[],.func (.func 78) #[] #[]] (tf n d0 d1) (λr y=>⟨(y 1).sl r.length,[rX 3 1 (y 1) r],[qX 1 (Dat.int .i64) (y 1) r]⟩):=
 fn 35 Tryz.func75 (lp [bx 2,bx 3,K 2 0,nr 4 5 3 (tI .i64)] {is:=[5],js:=[4]} (λK1 z _=>{L:=[(8,(z 1).sl K1.1.length),(13,.int .i64 K1.2)],ks:=[0,3,5,6,11,12],E:=[(7,rX 3 1 (z 1) K1.1)],x:=[4],F:=[(6,qX 1 (Dat.int .i64) (z 1) K1.1)]}) (λG2 z _=>{e:=.exit 0,L:=[(8,(z 1).sl G2.length)],E:=[(15,rX 3 1 (z 1) G2)],x:=[4],F:=[(14,qX 1 (Dat.int .i64) (z 1) G2)]}) (λK1=>br [] (ob (λ_ X2=>jn (.reg 4) [I 1 8 (tI .i8) X2,K 8 0] (λG1 _ _=>{L:=[(28,.bool G1)],ks:=[0,3,5,6,8,9,11,12,13]}) (bs [] 20 (ob (λX3 X4=>ob (λ_ X6=>rt [I 0 9 (tL 1 (Dat.int .i64)) X4,K 9 0,C (ready_every_C n X3 d1) X6 [10,3,2,1] [] 11]))) (rt [])) (kA λ_=>br [] (nd (λO1=>nd (λO2=>rt [ao 11,lk 11 12 (tI .i64) [(K1.2,[])],ap (ys:=[K1.2]) 7 6 12 13 (tI .i64) O1,wr 33 O2] {is:=[13],js:=[7]}))) (nd (λO3=>rt [wr 33 O3] {is:=[6],js:=[7]}))))) (rt [] {is:=[6],js:=[7]})) (kA λ_=>rt [] {is:=[14],js:=[15]}))
def qz (d0:List CD) (d1:CD) (d2:Bool):Option (CD×Int):=(sx n d0 d1).bind λX1=>bif !X1 then some (([]:CD),(2:Int)) else(pf n d0 (d2)).bind λX3=>(tf n X3 d1).bind λX5=>some (X5,(0:Int))
theorem ready_Ready_C (d0:List CD) (d1:CD) (d2:Bool) (z:Zs):oK ([.sli 1 (eL 1 (Dat.int .i64)) (z 0).A (z 0).c d0,sX 1 (Dat.int .i8) (z 1) d1]) [] 33 [wX (z 0) d0,wX (z 1) d1,.bool d2] (qz n d0 d1 d2) (λr y=>⟨.tuple #[wX (y 1) r.1,.int .i64 r.2],[rX 3 1 (y 1) r.1],[qX 1 (Dat.int .i64) (y 1) r.1]⟩):=
 fn 17 Tryz.func33 (ob (λ_ X2=>br [C (zD n d0 d1) X2 [0,1] [] 2] (rt [nr 2 3 3 (tI .i64)] {is:=[3],js:=[2]}) (ob (λX3 X4=>ob (λ_ X6=>rt [C (ya n d0 (d2)) X4 [0] [] 2,C (ready_over_C n X3 d1) X6 [2,1] [] 3] {is:=[3],js:=[3]})))))
def gR (n:Nat) (d0:CD) (z0:Bool):Option CD:=bif z0 then some ([]:CD) else ar ((([]:CD).length+d0.length)*1≤140737488355328)<|some (([]:CD)++d0)
theorem qp (M:Mem) (A0:Oa) (cap0:Nat) (d0:CD) (h0:Sli M 1 (Dat.int .i8) A0 cap0 d0) (z0:Bool) (hz0:A0.isNone=z0) (r:CD) (hF:gR n d0 z0=some r):OkH Tryz.prog M [] 134 [sL A0 d0 cap0] (λM' E' v=>∃ (A0:Oa) (k0:Nat) (s0:Lv),v=sL A0 r k0∧E'=[.row 22 1 (sL A0 r k0) r.length s0]∧au M' (r.map (Dat.int .i8)) s0):=by
 unfold gR at hF
 intro M1 hM0 w0 H w p0
 replace h0:=h0.mono hM0
 refine qR 8 Tryz.func134 rfl λa0 f0=>RR (Ye f0 1 λ_ f=>cq (RR (Y f 1 λ_ f=>Z (v:=bO A0.isNone) f (sR (A:=A0) (n:=d0.length) (c:=cap0) (e:=22) rfl kr kr kr _) λ_ f=>?_)))
 have f:=Frm.set f 4 (v:=bO A0.isNone) (v':=bO z0) kr (cB hz0)
 refine eT (RcF f hF (λB1 F1=>?_) λB1 F2=>?_)
 ·refine RR (Ye f 1 λ_ f=>wp_ret (T_r ?_))
  obtain⟨Z1,P1,H1,N1⟩:=p0.nilD 22 1 (Int)
  have f:=f.st 2 (H1)
  have D1:au M1 (([]:CD).map (Dat.int .i8)) []:=rfl
  refine oR f rfl (Lk 2 (sL Z1 ([]:CD) P1)) ?_
  cases sI F1
  exact⟨_,rfl,M1,_,(mR _),N1.kr,⟨Z1,P1,[],rfl,rfl,D1⟩⟩
 refine qS (RR (uX (k:=0) (c:=0) f p0 (.cells #[] 22 (0,0)) kr (λ_=>by kernel_rfl) λQ1 W1 N2 _ f=>Y f 1 λ_ f=>?_))
 have D2:au M1 (([]:CD).map (Dat.int .i8)) []:=rfl
 have N3:=N2.objR 0 1
 obtain⟨O1,F3⟩:=nS F2
 refine sg (z:=iB 0) (f:=(Dat.int .i8)) (xs:=([]:CD)) (ys:=d0) (c:=cap0) f N3 D2 h0 kr kr rfl rfl rfl kr kr kr kr O1 (by omega) λZ2 P2 L1 W2 N4 D3 _ f=>Ye f 1 λ_ f=>wp_ret (oR f rfl (Lk 2 (sL Z2 (([]:CD)++d0) P2)) ?_)
 cases sI F3
 exact⟨_,rfl,M1,_,(mR _),N4.kr,⟨Z2,P2,L1,rfl,rfl,D3⟩⟩
def dG (_:Nat) (d0:CD):Option CD:=ar (d0.length*1≤140737488355328) (some d0)
theorem rZ (M:Mem) (A0:Oa) (cap0:Nat) (d0:CD) (h0:Sli M 1 (Dat.int .i8) A0 cap0 d0) (r:CD) (hF:dG n d0=some r):OkH Tryz.prog M [] 134 [sL A0 d0 cap0] (λM' E' v=>∃ (A0:Oa) (k0:Nat) (s0:Lv),v=sL A0 r k0∧E'=[.row 22 1 (sL A0 r k0) r.length s0]∧au M' (r.map (Dat.int .i8)) s0):=by
 unfold dG at hF
 obtain⟨g,hF⟩:=nS hF
 cases sI hF
 refine qp n M A0 cap0 d0 h0 A0.isNone rfl d0 ?_
 unfold gR
 cases A0 with
 |none=>
  obtain⟨h1,h2,_⟩:=h0
  have h3:=h2 rfl
  obtain rfl:d0=[]:=List.eq_nil_of_length_eq_zero (by omega)
  rfl
 |some a=>simp[ar];omega
def te (n:Nat) (d0:Int):Option Bool:=bif decide (d0=4) then some (true) else some (decide (d0=5))
theorem BG (d0:Int) (z:Zs):oK ([]) [] 135 [.int .i8 d0] (te n d0) (λr y=>⟨.bool r,[],[]⟩):=
 fn 9 Tryz.func135 (bs [] 5 (rt []) (rt []))
def pd (d0:Int) (d2:CD):Option Bool:=(aq d2 d0).bind λX1=>(te n X1).bind λX3=>some (X3)
theorem yX (d0:Int) (d2:CD) (z:Zs):oK ([.kn (z 0).ad [.func (.func 135) #[] #[]],.kn (z 1).ad ((tL 1 (Dat.int .i8)).cells d2 (sh 2 z)),sX 1 (Dat.int .i8) (z 2) d2]) [] 139 [.int .i64 d0,.pointer (some (z 0).ad),.pointer (some (z 1).ad)] (pd n d0 d2) (λr y=>⟨.bool r,[],[]⟩):=
 fn 11 Tryz.func139 (ob (λX1 X2=>ob (λ_ X4=>rt [Ie 2 3 (tI .i8) X2,K 0 0,K 1 0,X 4,K 3 0,C (BG n X1) X4 [] [] 5])))
def dY (d0:CD) (ip:CD) (K1:Int):Option (Lp Int (Sum Int Unit)):=bif decide (K1<(d0.length:Int)) then(aq d0 K1).bind λX1=>(pd n X1 ip).bind λX3=>bif X3 then some (.br (.inl K1)) else ar (inR .i64 (K1+1))<|some (.nx (K1+1)) else some (.br (.inr ()))
def eX (d0:CD) (ip:CD):Option Int:=(av (dY n d0 ip) n (0:Int)).bind λQ1=>(match Q1 with|.inl G1=>some (G1)|.inr G2=>some (-1:Int))
theorem oP (d0:CD) (ip:CD) (z:Zs):oK ([sX 1 (Dat.int .i64) (z 0) d0,.kn (z 1).ad [.func (.func 135) #[] #[]],.kn (z 2).ad ((tL 1 (Dat.int .i8)).cells ip (sh 3 z)),sX 1 (Dat.int .i8) (z 3) ip]) [] 190 [wX (z 0) d0,.func (.func 139) #[] #[.pointer (some (z 1).ad),.pointer (some (z 2).ad)]] (eX n d0 ip) (λr y=>⟨.int .i64 r,[],[]⟩):=
 fn 19 Tryz.func190 (lp [] {} (λK1 _ _=>{L:=[(8,.int .i64 K1)],ks:=[0,1,7]}) (λx z b=>match x with|.inl G1=>{e:=.ret,L:=[(4,.int .i64 G1)]}|.inr G2=>{e:=.exit 0}) (λK1=>br [] (ob (λX1 X2=>ob (λ_ X4=>br [I 0 4 (tI .i64) X2,K 4 0,C (yX n X1 ip) X4 [1,2,3] [] 5] (rt []) (nd (λO1=>rt [wr 18 O1]))))) (rt [])) (kS (kA λ_=>rt []) (kA λ_=>rt [])))
def df (d0:CD) (ip:CD):Option Bool:=(eX n d0 ip).bind λX1=>some (decide ((0:Int)≤X1))
theorem lT (d0:CD) (ip:CD) (z:Zs):oK ([sX 1 (Dat.int .i64) (z 0) d0,.kn (z 1).ad [.func (.func 135) #[] #[]],.kn (z 2).ad ((tL 1 (Dat.int .i8)).cells ip (sh 3 z)),sX 1 (Dat.int .i8) (z 3) ip]) [] 137 [wX (z 0) d0,.func (.func 139) #[] #[.pointer (some (z 1).ad),.pointer (some (z 2).ad)]] (df n d0 ip) (λr y=>⟨.bool r,[],[]⟩):=
 fn 9 Tryz.func137 (ob (λ_ X2=>rt [C (oP n d0 ip) X2 [0,1,2,3] [] 4]))
def ti (d0:CD) (ip:CD):Option Bool:=(df n d0 ip).bind λX1=>some (X1)
theorem ready_some_C (d0:CD) (ip:CD) (z:Zs):oK ([sX 1 (Dat.int .i64) (z 0) d0,.kn (z 1).ad [.func (.func 135) #[] #[]],.kn (z 2).ad ((tL 1 (Dat.int .i8)).cells ip (sh 3 z)),sX 1 (Dat.int .i8) (z 3) ip]) [] 136 [wX (z 0) d0,.func (.func 139) #[] #[.pointer (some (z 1).ad),.pointer (some (z 2).ad)]] (ti n d0 ip) (λr y=>⟨.bool r,[],[]⟩):=
 fn 8 Tryz.func136 (ob (λ_ X2=>rt [C (lT n d0 ip) X2 [0,1,2,3] [] 4]))
def nn (d0:List CD) (d1:CD) (K1:CD×Int):Option (Lp (CD×Int) CD):=bif decide (K1.2<(d1.length:Int)) then(aq d1 K1.2).bind λX1=>(bif decide (X1=1) then(aq d0 K1.2).bind λX3=>(ti n X3 d1).bind λX5=>some (X5) else some (false):Option Bool).bind λG1=>bif G1 then ar ((K1.1.length+1)*8≤140737488355328)<|ar (inR .i64 (K1.2+1))<|some (.nx (K1.1++[K1.2],K1.2+1)) else ar (inR .i64 (K1.2+1))<|some (.nx (K1.1,K1.2+1)) else some (.br K1.1)
def oo (d0:List CD) (d1:CD):Option CD:=(av (nn n d0 d1) n (([]:CD),(0:Int))).bind λG2=>some (G2)
theorem BI (d0:List CD) (d1:CD) (z:Zs):oK ([.sli 1 (eL 1 (Dat.int .i64)) (z 0).A (z 0).c d0,sX 1 (Dat.int .i8) (z 1) d1]) [] 75 [wX (z 0) d0,wX (z 1) d1,.func (.func 135) #[] #[],.func (.func 136) #[] #[]] (oo n d0 d1) (λr y=>⟨(y 1).sl r.length,[rX 3 1 (y 1) r],[qX 1 (Dat.int .i64) (y 1) r]⟩):=
 fn 35 Tryz.func75 (lp [bx 2,bx 3,K 2 0,nr 4 5 3 (tI .i64)] {is:=[5],js:=[4]} (λK1 z _=>{L:=[(8,(z 1).sl K1.1.length),(13,.int .i64 K1.2)],ks:=[0,3,5,6,11,12],E:=[(7,rX 3 1 (z 1) K1.1)],x:=[4],F:=[(6,qX 1 (Dat.int .i64) (z 1) K1.1)]}) (λG2 z _=>{e:=.exit 0,L:=[(8,(z 1).sl G2.length)],E:=[(15,rX 3 1 (z 1) G2)],x:=[4],F:=[(14,qX 1 (Dat.int .i64) (z 1) G2)]}) (λK1=>br [] (ob (λ_ X2=>jn (.reg 4) [I 1 8 (tI .i8) X2,K 8 0] (λG1 _ _=>{L:=[(28,.bool G1)],ks:=[0,3,5,6,8,9,11,12,13]}) (bs [] 20 (ob (λX3 X4=>ob (λ_ X6=>rt [I 0 9 (tL 1 (Dat.int .i64)) X4,K 9 0,C (ready_some_C n X3 d1) X6 [10,3,2,1] [] 11]))) (rt [])) (kA λ_=>br [] (nd (λO1=>nd (λO2=>rt [ao 11,lk 11 12 (tI .i64) [(K1.2,[])],ap (ys:=[K1.2]) 7 6 12 13 (tI .i64) O1,wr 33 O2] {is:=[13],js:=[7]}))) (nd (λO3=>rt [wr 33 O3] {is:=[6],js:=[7]}))))) (rt [] {is:=[6],js:=[7]})) (kA λ_=>rt [] {is:=[14],js:=[15]}))
theorem sP (d0:CD) (z:Zs):oK ([sX 1 (Dat.int .i8) (z 0) d0]) [] 134 [wX (z 0) d0] (dG n d0) (λr y=>⟨(y 1).sl r.length,[rX 22 1 (y 1) r],[qX 1 (Dat.int .i8) (y 1) r]⟩):=λM hF r hr=>OkH.to (rZ n M _ _ d0 (Fh.sli hF (by simp)) r hr) λM' E' v ⟨A0,c0,s0,hv,he,h0⟩=>⟨nthZ [{},{A:=A0,c:=c0,k:=s0}],hv,he,(.cons ⟨h0,(tI .i8).szd⟩ Fh.nil)⟩
def jP (n:Nat) (X7:CD) (K2:CD×Int):Option (Lp (CD×Int) CD):=bif decide (K2.2<(X7.length:Int)) then(aq X7 K2.2).bind λX9=>(aq K2.1 X9).bind λX11=>ar (inR .i64 (K2.2+1))<|some (.nx (K2.1.set X9.toNat (5:Int),K2.2+1)) else some (.br K2.1)
def nk (X3:List CD) (K1:CD):Option (Lp CD CD):=(oo n X3 K1).bind λX7=>bif decide ((X7.length:Int)=0) then some (.br K1) else(av (jP n X7) n (K1,(0:Int))).bind λG1=>some (.nx G1)
def ol (d0:List CD) (d1:CD) (d2:Bool):Option (CD×Int):=(sx n d0 d1).bind λX1=>bif !X1 then some (([]:CD),(2:Int)) else(pf n d0 (d2)).bind λX3=>(dG n d1).bind λX5=>(av (nk n X3) n X5).bind λG2=>some (G2,(0:Int))
theorem BF (d0:List CD) (d1:CD) (d2:Bool) (z:Zs):oK ([.sli 1 (eL 1 (Dat.int .i64)) (z 0).A (z 0).c d0,sX 1 (Dat.int .i8) (z 1) d1]) [] 73 [wX (z 0) d0,wX (z 1) d1,.bool d2] (ol n d0 d1 d2) (λr y=>⟨.tuple #[wX (y 1) r.1,.int .i64 r.2],[rX 22 1 (y 1) r.1],[qX 1 (Dat.int .i8) (y 1) r.1]⟩):=
 fn 39 Tryz.func73 (ob (λ_ X2=>br [C (zD n d0 d1) X2 [0,1] [] 2] (rt [nr 2 3 22 (tI .i8)] {is:=[3],js:=[2]}) (ob (λX3 X4=>ob (λ_ X6=>lp [C (ya n d0 (d2)) X4 [0] [] 2,C (sP n d1) X6 [1] [] 3] {is:=[3],js:=[3]} (λK1 z _=>{L:=[(9,(z 1).sl K1.length)],ks:=[8],E:=[(5,rX 22 1 (z 1) K1)],x:=[3],F:=[(4,qX 1 (Dat.int .i8) (z 1) K1)]}) (λG2 z _=>{e:=.ret,L:=[(6,(z 1).sl G2.length),(7,.int .i64 0)],E:=[(18,rX 22 1 (z 1) G2)],x:=[3],F:=[(17,qX 1 (Dat.int .i8) (z 1) G2)]}) (λK1=>ob (λ_ X8=>br [CLr (flat_int _) (BI n X3 K1) X8 [2,6] [(5,4,6)] 7] (rt [] {is:=[4],js:=[5]}) (lp [] {is:=[4],js:=[5]} (λK2 z _=>{L:=[(9,(z 1).sl K2.1.length),(31,.int .i64 K2.2)],ks:=[8,29,30],E:=[(9,rX 22 1 (z 1) K2.1)],x:=[5],F:=[(8,qX 1 (Dat.int .i8) (z 1) K2.1)]}) (λG1 z _=>{e:=.exit 2,L:=[(9,(z 1).sl G1.length)],ks:=[8],E:=[(16,rX 22 1 (z 1) G1)],x:=[5],F:=[(15,qX 1 (Dat.int .i8) (z 1) G1)]}) (λK2=>br [] (ob (λ_ X10=>ob (λ_ X12=>nd (λO1=>rt [Re 7 7 10 (tI .i64) X10,X 11,Rd 7 10 0,Re 9 8 12 (tI .i8) X12,X 13,Sr1 9 8 13 14 (tI .i8) X12 (5:Int) [] [9,35],wr 38 O1] {is:=[14],js:=[9]})))) (rt [] {is:=[8],js:=[9]})) (kA λ_=>rt [] {is:=[15],js:=[16]})))) (kA λ_=>rt [] {is:=[17],js:=[18]}))))))
open Go.Ck
def qv (d0:bH) (X3:CD) (K1:CD×Int):Option (Lp (CD×Int) CD):=bif decide (K1.2<(X3.length:Int)) then(aq X3 K1.2).bind λX5=>(aq K1.1 X5).bind λX7=>(jg n d0 X5 (2:Int)).bind λX9=>bif X9.2 then(aq (K1.1.set X5.toNat (1:Int)) X5).bind λX11=>ar (inR .i64 (K1.2+1))<|some (.nx ((K1.1.set X5.toNat (1:Int)).set X5.toNat ((eS (jv (jv (jv ([]:List (Int×Int)) (0:Int) (2:Int)) (1:Int) (3:Int)) (2:Int) (4:Int)) X9.1.bW).getD (0:Int)),K1.2+1)) else ar (inR .i64 (K1.2+1))<|some (.nx (K1.1.set X5.toNat (1:Int),K1.2+1)) else some (.br K1.1)
def eA (d0:bH):Option CD:=(gg n d0).bind λX1=>bif !X1 then some ([]:CD) else ar (0≤(d0.am.length:Int)∧(d0.am.length:Int)*1≤140737488355328∧(d0.am.length:Int)≤140737488355328)<|(oa n d0).bind λX3=>(av (qv n d0 X3) n (List.replicate (d0.am.length:Int).toNat (0:Int),(0:Int))).bind λG1=>(dc n d0 (true)).bind λX13=>(ol n X13 G1 (true)).bind λX15=>some (X15.1)
set_option maxRecDepth 20000 in
theorem sj (n:Nat) (d0:bH) (z:Zs):oK (bn.facts d0 z) [] 32 [bn.ag d0 z] (eA n d0) (λr y=>⟨(y 1).sl r.length,[rX 22 1 (y 1) r],[qX 1 (Dat.int .i8) (y 1) r]⟩):=
 fn 51 Tryz.func32 (ob (λ_ X2=>br [bx 10,K 10 0,C (gv n d0) X2 [0,1,2,3,4,5,6,7,8,9] [] 11] (rt [nr 11 12 22 (tI .i8)] {is:=[12],js:=[11]}) (nd (λO1=>ob (λ_ X4=>lp [K 10 14,ms 11 12 (tI .i8) (0:Int) O1,K 10 0,C (Bh n d0) X4 [0,1,2,3,4,5,6,7,8,9] [] 13] {is:=[12],js:=[11]} (λK1 z _=>{L:=[(3,(z 1).sl K1.1.length),(20,.int .i64 K1.2)],ks:=[1,18,19],E:=[(15,rX 22 1 (z 1) K1.1)],x:=[11],F:=[(14,qX 1 (Dat.int .i8) (z 1) K1.1)]}) (λG1 z _=>{e:=.exit 0,L:=[(3,(z 1).sl G1.length)],ks:=[1],E:=[(28,rX 22 1 (z 1) G1)],x:=[11],F:=[(27,qX 1 (Dat.int .i8) (z 1) G1)]}) (λK1=>br [] (ob (λX5 X6=>ob (λ_ X8=>ob (λX9 X10=>br [Re 13 13 16 (tI .i64) X6,X 17,Rd 13 16 0,Re 15 14 18 (tI .i8) X8,X 19,Sr1 15 14 19 20 (tI .i8) X8 (1:Int) [] [3,24],K 10 0,C (Bq n d0 X5 (2:Int)) X10 [0,1,2,3,4,5,6,7,8,9] [] 21,al 22,Sn 22] (ob (λ_ X12=>nd (λO2=>rt [mmI .i8 23 (Value.int .i8),miI .i8 23 (Value.int .i8) ([]:List (Int×Int)) (0:Int) (2:Int),miI .i8 23 (Value.int .i8) (jv ([]:List (Int×Int)) (0:Int) (2:Int)) (1:Int) (3:Int),miI .i8 23 (Value.int .i8) (jv (jv ([]:List (Int×Int)) (0:Int) (2:Int)) (1:Int) (3:Int)) (2:Int) (4:Int),O 22,mlI .i8 23 (Value.int .i8) (jv (jv (jv ([]:List (Int×Int)) (0:Int) (2:Int)) (1:Int) (3:Int)) (2:Int) (4:Int)) X9.1.bW (0:Int),Re 15 20 24 (tI .i8) X12,X 25,Sr1 15 20 25 26 (tI .i8) X12 ((eS (jv (jv (jv ([]:List (Int×Int)) (0:Int) (2:Int)) (1:Int) (3:Int)) (2:Int) (4:Int)) X9.1.bW).getD (0:Int)) [] [3,34],wr 42 O2] {is:=[26],js:=[15]}))) (nd (λO3=>rt [wr 42 O3] {is:=[20],js:=[15]})))))) (rt [] {is:=[14],js:=[15]})) (kA λG1=>ob (λX13 X14=>ob (λ_ X16=>rt [K 10 0,C (oW n d0 (true)) X14 [0,1,2,3,4,5,6,7,8,9] [] 29,ri 28 27 30,C (BF n X13 G1 (true)) X16 [29,30] [] 31] {is:=[31],js:=[31]}))))))))
open Go.Ck
def lB (n:Nat) (_:Unit) (X9:Int×Int):Option (Lp Unit CD):=bif decide (X9.2=1) then some (.br [X9.1]) else some (.nx ())
def ee (d0:bH):Option CD:=(eA n d0).bind λX1=>(eE n d0).bind λX3=>(bif !(decide (d0.aJ=2)) then some (true) else some (decide (d0.co≤(X3.length:Int))):Option Bool).bind λG1=>bif G1 then some ([]:CD) else(dc n d0 (true)).bind λX5=>(qz n X5 X1 (true)).bind λX7=>(bif decide ((X7.1.length:Int)=0) then some (decide ((X3.length:Int)=0)) else some (false):Option Bool).bind λG2=>bif G2 then ar (X1.length≤9223372036854775806)<|(iN (lB n) (backI X1) ()).bind λj_1=>(match j_1 with|.nx _=>some (X7.1)|.br G3=>some (G3)) else some (X7.1)
theorem jO (d0:bH) (z:Zs):oK (bn.facts d0 z) [] 11 [bn.ag d0 z] (ee n d0) (λr y=>⟨(y 1).sl r.length,[rX 3 1 (y 1) r],[qX 1 (Dat.int .i64) (y 1) r]⟩):=
 fnM 46 Tryz.func11 (ob (λX1 X2=>ob (λ_ X4=>jn (.reg 2) [bx 10,al 11,K 10 0,C (sj n d0) X2 [0,1,2,3,4,5,6,7,8,9] [] 12,K 10 0,C (lD n d0) X4 [0,1,2,3,4,5,6,7,8,9] [] 13] (λG1 _ _=>{L:=[(22,.bool G1)],ks:=[1,2,3,4]}) (bs [K 10 16] 17 (rt []) (rt [K 10 1])) (kA λ_=>br [] (rt [S1 11,nr 14 15 3 (tI .i64)] {is:=[15],js:=[14],rk:=[11]}) (ob (λX5 X6=>ob (λ_ X8=>jn (.reg 5) [K 10 0,C (oW n d0 (true)) X6 [0,1,2,3,4,5,6,7,8,9] [] 14,ri 12 12 15,C (ready_Ready_C n X5 X1 (true)) X8 [14,15] [] 16] (λG2 _ _=>{L:=[(36,.bool G2)],ks:=[2,3,5]}) (bs [] 33 (rt []) (rt [])) (kA λ_=>br [] (nd (λO1=>rf [C (backB_C X1 O1) rfl [15] [] 17] (iI .i8) 18 0 {} (λ_ _ _=>{}) (λG3 z _=>{e:=.ret,E:=[(21,rX 3 1 (z 1) G3)],m:=[(11,0,(z 1).sl G3.length)],F:=[(20,qX 1 (Dat.int .i64) (z 1) G3)]}) [] (λ_ X9=>br [] (rt [ao 19,S1 11,lr 19 20 (tI .i64) [(X9.1,[])]] {is:=[20],js:=[19]}) (rt [])) (kL (kA (λ_=>rt [S1 11] {is:=[16],js:=[16],rk:=[11]})) (kA λ_=>rt [] {is:=[20],js:=[21],rk:=[11]})))) (rt [S1 11] {is:=[16],js:=[16],rk:=[11]})))))))))
open Go.Ck
def la (n:Nat) (d0:CD) (d1:Int) (K1:Int):Option (Lp Int (Sum Int Unit)):=bif decide (K1<(d0.length:Int)) then(aq d0 K1).bind λX1=>bif decide (d1=X1) then some (.br (.inl K1)) else ar (inR .i64 (K1+1))<|some (.nx (K1+1)) else some (.br (.inr ()))
def jC (d0:CD) (d1:Int):Option Int:=(av (la n d0 d1) n (0:Int)).bind λQ1=>(match Q1 with|.inl G1=>some (G1)|.inr G2=>some (-1:Int))
theorem uT (d0:CD) (d1:Int) (z:Zs):oK ([sX 1 (Dat.int .i64) (z 0) d0]) [] 86 [wX (z 0) d0,.int .i64 d1] (jC n d0 d1) (λr y=>⟨.int .i64 r,[],[]⟩):=
 fn 19 Tryz.func86 (lp [] {} (λK1 _ _=>{L:=[(8,.int .i64 K1)],ks:=[0,1,7]}) (λx z b=>match x with|.inl G1=>{e:=.ret,L:=[(4,.int .i64 G1)]}|.inr G2=>{e:=.exit 0}) (λK1=>br [] (ob (λ_ X2=>br [I 0 1 (tI .i64) X2,K 1 0] (rt []) (nd (λO1=>rt [wr 18 O1])))) (rt [])) (kS (kA λ_=>rt []) (kA λ_=>rt [])))
def ed (d0:CD) (d1:Int):Option Bool:=(jC n d0 d1).bind λX1=>some (decide ((0:Int)≤X1))
theorem sa (d0:CD) (d1:Int) (z:Zs):oK ([sX 1 (Dat.int .i64) (z 0) d0]) [] 37 [wX (z 0) d0,.int .i64 d1] (ed n d0 d1) (λr y=>⟨.bool r,[],[]⟩):=
 fn 9 Tryz.func37 (ob (λ_ X2=>rt [C (uT n d0 d1) X2 [0] [] 1]))
def ii (d0:bH) (d1:Int):Option (bH×Ba×Int):=((gg n d0).bind λX1=>bif !X1 then some (2:Int) else bif !(decide (d0.aJ=2)) then some (290:Int) else(ee n d0).bind λX3=>(ed n X3 d1).bind λX5=>bif !X5 then some (4:Int) else some (0:Int):Option Int).bind λG1=>bif !(decide (G1=0)) then some ((⟨(0:Int),(0:Int),je,gG,([]:Bs),([]:Cp),([]:Cv),([]:Cx),(0:Int),(0:Int)⟩:bH),yJ,G1) else((aq d0.am d1).bind λX7=>(kj n d0.bI X7.ci).bind λX9=>some (X9.1):Option gK).bind λG2=>ar (inR .i64 ((d0.an.length:Int)+1))<|(ar (0≤(d0.an.length:Int)∧(d0.an.length:Int)≤(d0.an.length:Int))<|ar (((d0.an.take (d0.an.length:Int).toNat).length+1)*112≤140737488355328)<|some ((d0.an.take (d0.an.length:Int).toNat)++[(⟨d1,(2:Int),(⟨(d0.an.length:Int)+1,(2:Int),G2.bm,([]:Bs),([]:Cp)⟩:Ba),(0:Int),([]:Bs)⟩:dq)]):Option Cx).bind λG3=>some ((⟨d0.aA,d0.co,d0.bI,d0.ig,d0.be,d0.bG,d0.am,G3,d0.aJ,d0.cm⟩:bH),(⟨(d0.an.length:Int)+1,(2:Int),G2.bm,([]:Bs),([]:Cp)⟩:Ba),(0:Int))
set_option maxRecDepth 20000 in
theorem uw (n:Nat) (d0:bH) (d1:Int) (z:Zs):oK (bn.facts d0 z) [] 12 [bn.ag d0 z,.int .i64 d1] (ii n d0 d1) (λr y=>⟨.tuple #[bn.ag r.1 y,uY.ag r.2.1 (sh 10 y),.int .i64 r.2.2],[],bn.facts r.1 y++uY.facts r.2.1 (sh 10 y)⟩):=
 fn 64 Tryz.func12 (jn (.blk 0) [al 10,al 11,al 12] (λG1 _ _=>{L:=[(7,.int .i64 G1)],ks:=[1,2,4,5]}) (ob (λ_ X2=>br [O 10,C (gv n d0) X2 [0,1,2,3,4,5,6,7,8,9] [] 13] (rt []) (br [O 10] (rt []) (ob (λX3 X4=>ob (λ_ X6=>br [O 10,C (jO n d0) X4 [0,1,2,3,4,5,6,7,8,9] [] 13,CL (sa n X3 d1) X6 [14] [(13,13,14)]] (rt []) (rt []))))))) (kA λ_=>br [] (rt [Sn 11,Sn 12,nf 15 6 aK,nf 16 6 aK,nf 17 6 aK,nf 18 8 aj,nf 19 8 aj,nf 20 7 aT,nf 21 11 aS,nf 22 8 aj,nf 23 8 bi,nf 24 9 bF,nf 25 8 aj] {is:=[15,16,17,18,19,20,21,22,23,24,25],rk:=[11,12,0]}) (jn (.reg 10) [] (λG2 z _=>{L:=[(8,.pointer (some (z 0).ad))],ks:=[1,2,4,5],F:=[(22,.kn (z 0).ad (bN.cells G2 (sh 1 z)))]++nums 23 (bN.facts G2 (sh 1 z))}) (ob (λX7 X8=>ob (λ_ X10=>rt [Ie 8 15 dk X8,O 10,O 10,X 16,K 15 0,C (wk n d0.bI X7.ci) X10 [0,1,2,3,4] [] 19,al 21,Sn 21,fz 21 22] {is:=[22,19,20]}))) (kA λG2=>nd (λO1=>jn (.reg 13) [O 10,wr 47 O1,K 22 2,al 25,Sn 25] (λG3 z _=>{ks:=[2,4,5,11],m:=[(10,15,(z 0).sl G3.length)],F:=[(31,sX 9 bF (z 0) G3)]}) (nd (λO2=>nd (λO3=>rt [nf 28 8 aj,ch [10] [],lo (O 10),c3 9 26 cx O2,O 25,th (ao 27) (lk 27 29 cx [((⟨d1,(2:Int),(⟨(d0.an.length:Int)+1,(2:Int),G2.bm,([]:Bs),([]:Cp)⟩:Ba),(0:Int),([]:Bs)⟩:dq),[28])]),aF (ys:=[(⟨d1,(2:Int),(⟨(d0.an.length:Int)+1,(2:Int),G2.bm,([]:Bs),([]:Cp)⟩:Ba),(0:Int),([]:Bs)⟩:dq)]) 26 29 30 cx O3,S1 10] {is:=[30]}))) (kA λ_=>rt [ch [11,12] [],O 10,O 25,Sn 11,Sn 12,nf 32 8 aj] {is:=[0,1,2,3,4,5,6,7,8,31,32],rk:=[11,12,0]}))))))
open Go.Ck
def Ag (n:Nat) (X1:CD) (K1:CD×Int):Option (Lp (CD×Int) CD):=bif decide (K1.2<(X1.length:Int)) then(aq X1 K1.2).bind λX3=>(bif decide (X3=4) then some (true) else some (decide (X3=5)):Option Bool).bind λG1=>bif G1 then ar ((K1.1.length+1)*8≤140737488355328)<|ar (inR .i64 (K1.2+1))<|some (.nx (K1.1++[K1.2],K1.2+1)) else ar (inR .i64 (K1.2+1))<|some (.nx (K1.1,K1.2+1)) else some (.br K1.1)
def Ah (n:Nat) (K2:CD) (X7:Int×gK):Option (Lp CD Empty):=bif X7.2.bV then ar ((K2.length+1)*8≤140737488355328)<|some (.nx (K2++[X7.1])) else some (.nx K2)
def sS (d0:bH):Option (CD×CD):=(eA n d0).bind λX1=>(av (Ag n X1) n (([]:CD),(0:Int))).bind λG2=>(goingV n d0).bind λX5=>(iN (Ah n) X5 ([]:CD)).bind λj_1=>(match j_1 with|.nx K3=>some (G2,K3)|.br _=>none)
theorem uZ (d0:bH) (z:Zs):oK (bn.facts d0 z) [] 17 [bn.ag d0 z] (sS n d0) (λr y=>⟨.tuple #[wX (y 2) r.1,wX (y 3) r.2],[rX 3 1 (y 2) r.1,rX 3 1 (y 3) r.2],[qX 1 (Dat.int .i64) (y 2) r.1,qX 1 (Dat.int .i64) (y 3) r.2]⟩):=
 fnM 38 Tryz.func17 (ob (λ_ X2=>lp [bx 10,al 11,K 10 0,C (sj n d0) X2 [0,1,2,3,4,5,6,7,8,9] [] 12,nr 13 14 3 (tI .i64)] {is:=[14],js:=[13]} (λK1 z _=>{L:=[(2,(z 1).sl K1.1.length),(11,.int .i64 K1.2)],ks:=[1,3,9,10],E:=[(16,rX 3 1 (z 1) K1.1)],x:=[13],F:=[(15,qX 1 (Dat.int .i64) (z 1) K1.1)]}) (λG2 z _=>{e:=.exit 0,L:=[(2,(z 1).sl G2.length)],ks:=[1,3],E:=[(23,rX 3 1 (z 1) G2)],x:=[13],F:=[(22,qX 1 (Dat.int .i64) (z 1) G2)]}) (λK1=>br [] (ob (λ_ X4=>jn (.reg 4) [Re 12 12 17 (tI .i8) X4,X 18,Rd 12 17 0] (λG1 _ _=>{L:=[(21,.bool G1)],ks:=[1,2,3,4,9,10,11]}) (bs [] 18 (rt []) (rt [])) (kA λ_=>br [] (nd (λO1=>nd (λO2=>rt [ao 19,lk 19 20 (tI .i64) [(K1.2,[])],ap (ys:=[K1.2]) 16 15 20 21 (tI .i64) O1,wr 26 O2] {is:=[21],js:=[16]}))) (nd (λO3=>rt [wr 26 O3] {is:=[15],js:=[16]}))))) (rt [] {is:=[15],js:=[16]})) (kA λ_=>ob (λ_ X6=>rf [C (going_C n d0) X6 [10,0,1,2,3,4,5,6,7,8,9] [] 24,nr 26 27 3 (tI .i64)] (iS bN) 25 30 {is:=[27],js:=[26]} (λK2 z _=>{E:=[(29,rX 3 1 (z 1) K2)],x:=[26],m:=[(11,0,(z 1).sl K2.length)],F:=[(28,qX 1 (Dat.int .i64) (z 1) K2)]}) (λb=>b.elim) [al 32,Sn 32] (λK2 X7=>br [O 32] (nd (λO4=>rt [O 11,ao 33,lk 33 34 (tI .i64) [(X7.1,[])],ap (ys:=[X7.1]) 29 28 34 35 (tI .i64) O4,S1 11] {is:=[35],js:=[29]})) (rt [] {is:=[28],js:=[29]})) (kL (kA (λ_=>rt [ch [11] [],lo (O 11),S1 11] {is:=[22,28],js:=[23,29],rk:=[0,11]})) kE)))))
open Go.Ck
def xS (d0:bH):Option bH:=((gg n d0).bind λX1=>bif !X1 then some (true) else bif !(decide (d0.aJ=2)) then some (true) else(eE n d0).bind λX3=>(ee n d0).bind λX5=>ar (inR .i64 ((X3.length:Int)+ (X5.length:Int)))<|some (decide ((0:Int)<((X3.length:Int)+ (X5.length:Int)))):Option Bool).bind λG1=>bif G1 then some (d0) else(sS n (⟨d0.aA,d0.co,d0.bI,d0.ig,d0.be,d0.bG,d0.am,d0.an,(3:Int),d0.cm⟩:bH)).bind λX7=>bif !(decide (d0.aA=2)) then some (⟨d0.aA,d0.co,d0.bI,d0.ig,d0.be,d0.bG,d0.am,d0.an,(3:Int),(2:Int)⟩:bH) else bif decide ((X7.1.length:Int)=0) then some (⟨d0.aA,d0.co,d0.bI,d0.ig,d0.be,d0.bG,d0.am,d0.an,(3:Int),(5:Int)⟩:bH) else some (⟨d0.aA,d0.co,d0.bI,d0.ig,d0.be,d0.bG,d0.am,d0.an,(3:Int),(6:Int)⟩:bH)
set_option maxRecDepth 20000 in
theorem Bi (n:Nat) (d0:bH) (z:Zs):oK (bn.facts d0 z) [] 16 [bn.ag d0 z] (xS n d0) (λr y=>⟨bn.ag r y,[],bn.facts r y⟩):=
 fn 42 Tryz.func16 (jn (.reg 1) [al 10,al 11] (λG1 _ _=>{L:=[(22,.bool G1)],ks:=[1,2]}) (ob (λ_ X2=>bh (.reg 1) [] (λB1=>rt [ch [] [(8,⟨cB B1⟩)],O 10,C (gv n d0) X2 [0,1,2,3,4,5,6,7,8,9] [] 12,cd true,cd true,cd true,cd true,cd true]) (λB1=>bh (.reg 1) [] (λB2=>rt [ch [] [(8,⟨cB B1⟩),(13,⟨cB B2⟩)],O 10,C (gv n d0) X2 [0,1,2,3,4,5,6,7,8,9] [] 12,O 10,cd true,cd true,cd true,cd true]) (λB2=>ob (λ_ X4=>ob (λ_ X6=>nd (λO1=>rt [ch [] [(8,⟨cB B1⟩),(13,⟨cB B2⟩),(20,⟨congrArg (Value.int .i64) (cD O1)⟩)],O 10,C (gv n d0) X2 [0,1,2,3,4,5,6,7,8,9] [] 12,O 10,O 10,C (lD n d0) X4 [0,1,2,3,4,5,6,7,8,9] [] 12,O 10,C (jO n d0) X6 [0,1,2,3,4,5,6,7,8,9] [] 13]))))))) (kA λ_=>br [] (rt [O 10,Sn 11] {is:=[0,1,2,3,4,5,6,7,8,9],rk:=[11]}) (ob (λ_ X8=>br [S1 10,O 10,C (uZ n (⟨d0.aA,d0.co,d0.bI,d0.ig,d0.be,d0.bG,d0.am,d0.an,(3:Int),d0.cm⟩:bH)) X8 [0,1,2,3,4,5,6,7,8,9] [] 14,O 10] (rt [S1 10,O 10,Sn 11] {is:=[0,1,2,3,4,5,6,7,8,9],rk:=[11]}) (br [] (rt [S1 10,O 10,Sn 11] {is:=[0,1,2,3,4,5,6,7,8,9],rk:=[11]}) (rt [S1 10,O 10,Sn 11] {is:=[0,1,2,3,4,5,6,7,8,9],rk:=[11]}))))))
open Go.Ck
def dB (n:Nat) (d0:Cx) (z0:Bool):Option Cx:=bif z0 then some ([]:Cx) else ar ((([]:Cx).length+d0.length)*112≤140737488355328)<|some (([]:Cx)++d0)
theorem ke (M:Mem) (A0:Oa) (cap0:Nat) (d0:Cx) (h0:Sli M 9 bF A0 cap0 d0) (z0:Bool) (hz0:A0.isNone=z0) (r:Cx) (hF:dB n d0 z0=some r):OkH Tryz.prog M [] 40 [sL A0 d0 cap0] (λM' E' v=>∃ (A0:Oa) (k0:Nat) (s0:Lv),v=sL A0 r k0∧E'=[.row 66 9 (sL A0 r k0) r.length s0]∧au M' (r.map bF) s0):=by
 unfold dB at hF
 intro M1 hM0 w0 H w p0
 replace h0:=h0.mono hM0
 refine qR 8 Tryz.func40 rfl λa0 f0=>RR (Ye f0 1 λ_ f=>cq (RR (Y f 1 λ_ f=>Z (v:=bO A0.isNone) f (sR (A:=A0) (n:=d0.length) (c:=cap0) (e:=66) rfl kr kr kr _) λ_ f=>?_)))
 have f:=Frm.set f 4 (v:=bO A0.isNone) (v':=bO z0) kr (cB hz0)
 refine eT (RcF f hF (λB1 F1=>?_) λB1 F2=>?_)
 ·refine RR (Ye f 1 λ_ f=>wp_ret (T_r ?_))
  obtain⟨Z1,P1,H1,N1⟩:=p0.nilD 66 9 (dq)
  have f:=f.st 2 (H1)
  have D1:au M1 (([]:Cx).map bF) []:=rfl
  refine oR f rfl (Lk 2 (sL Z1 ([]:Cx) P1)) ?_
  cases sI F1
  exact⟨_,rfl,M1,_,(mR _),N1.kr,⟨Z1,P1,[],rfl,rfl,D1⟩⟩
 refine qS (RR (uX (k:=0) (c:=0) f p0 (.cells #[] 66 (0,0)) kr (λ_=>by kernel_rfl) λQ1 W1 N2 _ f=>Y f 1 λ_ f=>?_))
 have D2:au M1 (([]:Cx).map bF) []:=rfl
 have N3:=N2.objR 0 9
 obtain⟨O1,F3⟩:=nS F2
 refine sg (z:=.agg #[iL 0,iB 0,iL 0,iB 0,S [],S [],qN,iB 0,S []]) (f:=bF) (xs:=([]:Cx)) (ys:=d0) (c:=cap0) f N3 D2 h0 kr kr rfl rfl rfl kr kr kr kr O1 (by omega) λZ2 P2 L1 W2 N4 D3 _ f=>Ye f 1 λ_ f=>wp_ret (oR f rfl (Lk 2 (sL Z2 (([]:Cx)++d0) P2)) ?_)
 cases sI F3
 exact⟨_,rfl,M1,_,(mR _),N4.kr,⟨Z2,P2,L1,rfl,rfl,D3⟩⟩
def cA (_:Nat) (d0:Cx):Option Cx:=ar (d0.length*112≤140737488355328) (some d0)
theorem kZ (M:Mem) (A0:Oa) (cap0:Nat) (d0:Cx) (h0:Sli M 9 bF A0 cap0 d0) (r:Cx) (hF:cA n d0=some r):OkH Tryz.prog M [] 40 [sL A0 d0 cap0] (λM' E' v=>∃ (A0:Oa) (k0:Nat) (s0:Lv),v=sL A0 r k0∧E'=[.row 66 9 (sL A0 r k0) r.length s0]∧au M' (r.map bF) s0):=by
 unfold cA at hF
 obtain⟨g,hF⟩:=nS hF
 cases sI hF
 refine ke n M A0 cap0 d0 h0 A0.isNone rfl d0 ?_
 unfold dB
 cases A0 with
 |none=>
  obtain⟨h1,h2,_⟩:=h0
  have h3:=h2 rfl
  obtain rfl:d0=[]:=List.eq_nil_of_length_eq_zero (by omega)
  rfl
 |some a=>simp[ar];omega
theorem ld (d0:Cx) (z:Zs):oK ([sX 9 bF (z 0) d0]) [] 40 [wX (z 0) d0] (cA n d0) (λr y=>⟨(y 1).sl r.length,[rX 66 9 (y 1) r],[qX 9 bF (y 1) r]⟩):=λM hF r hr=>OkH.to (kZ n M _ _ d0 (Fh.sli hF (by simp)) r hr) λM' E' v ⟨A0,c0,s0,hv,he,h0⟩=>⟨nthZ [{},{A:=A0,c:=c0,k:=s0}],hv,he,(.cons ⟨h0,cx.szd⟩ Fh.nil)⟩
def kf (d0:bH) (d1:Int) (d2:TE0):Option (bH×Int):=((gg n d0).bind λX1=>(bif !X1 then some (!X1) else some (!d2.Ci):Option Bool).bind λG1=>bif G1 then(some ((⟨(0:Int),(0:Int),je,gG,([]:Bs),([]:Cp),([]:Cv),([]:Cx),(0:Int),(0:Int)⟩:bH),(2:Int)):Option (bH×Int)).map Lp.br else(gM n d1 (1:Int) (d0.an.length:Int)).bind λX3=>bif !X3 then(some ((⟨(0:Int),(0:Int),je,gG,([]:Bs),([]:Cp),([]:Cv),([]:Cx),(0:Int),(0:Int)⟩:bH),(4:Int)):Option (bH×Int)).map Lp.br else ar (inR .i64 (d1-1))<|(aq d0.an (d1-1)).bind λX5=>bif !(decide (X5.bW=0)) then(some ((⟨(0:Int),(0:Int),je,gG,([]:Bs),([]:Cp),([]:Cv),([]:Cx),(0:Int),(0:Int)⟩:bH),(110:Int)):Option (bH×Int)).map Lp.br else some (.nx ()):Option (Lp Unit (bH×Int))).bind λj=>joinF j λG2=>(cA n d0.an).bind λX7=>ar (inR .i64 (d1-1))<|(aq X7 (d1-1)).bind λX9=>bif d2.Co then some ((⟨d0.aA,d0.co,d0.bI,d0.ig,d0.be,d0.bG,d0.am,((X7.set (d1-1).toNat (⟨X9.aX,X9.aJ,X9.cP,(2:Int),X9.bm⟩:dq)).set (d1-1).toNat (⟨X9.aX,X9.aJ,X9.cP,(1:Int),X9.bm⟩:dq)).set (d1-1).toNat (⟨X9.aX,X9.aJ,X9.cP,(1:Int),d2.bm⟩:dq),d0.aJ,d0.cm⟩:bH),(0:Int)) else some ((⟨d0.aA,d0.co,d0.bI,d0.ig,d0.be,d0.bG,d0.am,X7.set (d1-1).toNat (⟨X9.aX,X9.aJ,X9.cP,(2:Int),X9.bm⟩:dq),d0.aJ,d0.cm⟩:bH),(0:Int))
set_option maxRecDepth 20000 in
theorem wQ (n:Nat) (d0:bH) (d1:Int) (d2:TE0) (z:Zs):oK (bn.facts d0 z) [] 15 [bn.ag d0 z,.int .i64 d1,Y_TE0.ag d2 (sh 10 z)] (kf n d0 d1 d2) (λr y=>⟨.tuple #[bn.ag r.1 y,.int .i64 r.2],[],bn.facts r.1 y⟩):=
 fn 58 Tryz.func15 (jb (.blk 0) [al 10,bx 11,al 12] (λ_ _ _=>{ks:=[1,3,5,6]}) (ob (λ_ X2=>jn .no [O 10,C (gv n d0) X2 [0,1,2,3,4,5,6,7,8,9] [] 13] (λG1 _ _=>{L:=[(9,.bool G1)],ks:=[1,3,5,6]}) (br [] (rt []) (rt [K 11 0])) (kA λ_=>br [] (esc [Sn 12] (rt [nf 13 6 aK,nf 14 6 aK,nf 15 6 aK,nf 16 8 aj,nf 17 8 aj,nf 18 7 aT,nf 19 11 aS,nf 20 8 aj,nf 21 8 bi,nf 22 9 bF] {is:=[13,14,15,16,17,18,19,20,21,22],rk:=[12,0]})) (ob (λ_ X4=>br [O 10,C (lE n d1 (1:Int) (d0.an.length:Int)) X4 [] [] 13] (esc [Sn 12] (rt [nf 13 6 aK,nf 14 6 aK,nf 15 6 aK,nf 16 8 aj,nf 17 8 aj,nf 18 7 aT,nf 19 11 aS,nf 20 8 aj,nf 21 8 bi,nf 22 9 bF] {is:=[13,14,15,16,17,18,19,20,21,22],rk:=[12,0]})) (nd (λO1=>ob (λ_ X6=>br [O 10,wr 29 O1,I 9 13 cx X6,K 13 7] (esc [Sn 12] (rt [nf 15 6 aK,nf 16 6 aK,nf 17 6 aK,nf 18 8 aj,nf 19 8 aj,nf 20 7 aT,nf 21 11 aS,nf 22 8 aj,nf 23 8 bi,nf 24 9 bF] {is:=[15,16,17,18,19,20,21,22,23,24],rk:=[12,0]})) (rt []))))))))) (kA λ_=>ob (λX7 X8=>nd (λO2=>ob (λX9 X10=>br [O 10,C (ld n d0.an) X8 [9] [] 15,S1 10,O 10,wr 42 O2,Re 15 15 16 cx X10,X 17,Sf 15 15 16 19 7 cx X10 (⟨X9.aX,X9.aJ,X9.cP,(2:Int),X9.bm⟩:dq) [18] [] [(10,15)],K 11 1] (rt [ch [10,15] [],K 11 2,Ck.Sg 15 19 16 20 7 cx (Bt (y:=(⟨X9.aX,X9.aJ,X9.cP,(2:Int),X9.bm⟩:dq)) X10) (⟨X9.aX,X9.aJ,X9.cP,(1:Int),X9.bm⟩:dq) [18] rfl,Ck.Sg 15 20 16 21 8 cx (Bt (y:=(⟨X9.aX,X9.aJ,X9.cP,(1:Int),X9.bm⟩:dq)) (Bt (y:=(⟨X9.aX,X9.aJ,X9.cP,(2:Int),X9.bm⟩:dq)) X10)) (⟨X9.aX,X9.aJ,X9.cP,(1:Int),d2.bm⟩:dq) [18] (m:=(X7.set (d1-1).toNat (⟨X9.aX,X9.aJ,X9.cP,(2:Int),X9.bm⟩:dq)).length) (by simp),hw 15 (len_set (X7.set (d1-1).toNat (⟨X9.aX,X9.aJ,X9.cP,(2:Int),X9.bm⟩:dq)) (d1-1).toNat (⟨X9.aX,X9.aJ,X9.cP,(1:Int),X9.bm⟩:dq)) [] [(10,15)],hw 15 (len_set ((X7.set (d1-1).toNat (⟨X9.aX,X9.aJ,X9.cP,(2:Int),X9.bm⟩:dq)).set (d1-1).toNat (⟨X9.aX,X9.aJ,X9.cP,(1:Int),X9.bm⟩:dq)) (d1-1).toNat (⟨X9.aX,X9.aJ,X9.cP,(1:Int),d2.bm⟩:dq)) [] [(10,15)],O 10,ri 15 21 22,Sn 12] {is:=[0,1,2,3,4,5,6,7,8,22],rk:=[12,0]}) (rt [O 10,ri 15 19 20,Sn 12] {is:=[0,1,2,3,4,5,6,7,8,20],rk:=[12,0]}))))))
open Go.Ck
def law27_gone_s1 (n:Nat) (d0:CB) (K1:Int×Cv):Option (Lp (Int×Cv) Cv):=bif decide (K1.1<(d0.length:Int)) then(aq d0 K1.1).bind λX1=>ar ((K1.2.length+1)*112≤140737488355328)<|ar (inR .i64 (K1.1+1))<|some (.nx (K1.1+1,K1.2++[(⟨X1.ci,(4:Int),X1.bB,([]:Cp),(false),(-1:Int),(true),X1.bA⟩:cV)])) else some (.br K1.2)
def By (d0:CB):Option bH:=(av (law27_gone_s1 n d0) n ((0:Int),([]:Cv))).bind λG1=>some (⟨(2:Int),(2:Int),(⟨d0,([]:CB),([]:CB),([]:Cp),([]:Bs),([]:Cp),(0:Int),(2:Int)⟩:gH),gG,([]:Bs),([]:Cp),G1,([]:Cx),(2:Int),(0:Int)⟩:bH)
theorem law27_gone_C (d0:CB) (z:Zs):oK ([sX 6 aK (z 0) d0]) [] 26 [wX (z 0) d0] (By n d0) (λr y=>⟨bn.ag r y,[],bn.facts r y⟩):=
 fn 29 Tryz.func26 (lp [al 1,al 2,Sn 2,nr 3 4 64 dk] {is:=[4],js:=[3]} (λK1 z _=>{L:=[(11,.int .i64 K1.1)],ks:=[2,3,9,10],E:=[(6,rX 64 8 (z 1) K1.2)],x:=[3],m:=[(2,14,(z 1).sl K1.2.length)],F:=[(5,qX 8 bi (z 1) K1.2)]}) (λG1 z _=>{e:=.exit 0,ks:=[2,3],E:=[(16,rX 64 8 (z 1) G1)],x:=[3],m:=[(2,14,(z 1).sl G1.length)],F:=[(15,qX 8 bi (z 1) G1)]}) (λK1=>br [] (ob (λX1 X2=>nd (λO1=>nd (λO2=>rt [I 0 7 bN X2,K 7 0,al 10,Sn 10,O 2,O 10,O 10,O 10,ao 11,nf 12 8 aj,lk 11 13 dk [((⟨X1.ci,(4:Int),X1.bB,([]:Cp),(false),(-1:Int),(true),X1.bA⟩:cV),[12,9])],ap (ys:=[(⟨X1.ci,(4:Int),X1.bB,([]:Cp),(false),(-1:Int),(true),X1.bA⟩:cV)]) 6 5 13 14 dk O1,S1 2,wr 27 O2] {is:=[14],js:=[6]})))) (rt [] {is:=[5],js:=[6]})) (kA λ_=>rt [O 2,ri 16 15 17,Sn 1,nf 18 6 aK,nf 19 6 aK,nf 20 8 aj,nf 21 8 aj,nf 22 7 aT,nf 23 11 aS,nf 24 8 aj,nf 25 9 bF] {is:=[0,18,19,20,21,22,23,24,17,25],rk:=[1]}))
open Go.Ck
def mC :Option Bool:=(yU n [65] [112,49] ([]:List Bs)).bind λX1=>(yU n [66] [112,50] ([[65]]:List Bs)).bind λX3=>(By n [X1,X3]).bind λX5=>(ee n X5).bind λX7=>(ii n X5 (1:Int)).bind λX9=>(kf n X9.1 (1:Int) (⟨(true),(false),([]:Bs)⟩:TE0)).bind λX11=>(sS n X11.1).bind λX13=>bif decide ((X7.length:Int)=1) then(aq X7 (0:Int)).bind λX15=>bif decide (X15=1) then bif decide (X9.2.2=0) then bif decide (X9.2.1.aA=2) then bif decide (X9.2.1.bm=[112,50]) then bif decide (X11.2=0) then bif decide ((X13.1.length:Int)=2) then bif decide ((X13.2.length:Int)=0) then(xS n X11.1).bind λX17=>some (decide (X17.cm=6)) else some (false) else some (false) else some (false) else some (false) else some (false) else some (false) else some (false) else some (false)
theorem wS (z:Zs):oK ([]) [] 7 [] (mC n) (λr y=>⟨.bool r,[],[]⟩):=
 fn 77 Tryz.func7 (ob (λX1 X2=>ob (λX3 X4=>ob (λX5 X6=>ob (λ_ X8=>ob (λX9 X10=>ob (λX11 X12=>ob (λ_ X14=>bs [nf 0 1 Dat.str,C (zC n [65] [112,49] ([]:List Bs)) X2 [0] [] 1,ao 3,lk 3 4 tS [([65],[])],C (zC n [66] [112,50] ([[65]]:List Bs)) X4 [4] [] 5,ao 7,lk 7 8 bN [(X1,[1,2]),(X3,[5,6])],C (law27_gone_C n [X1,X3]) X6 [8] [] 9,al 19,Sn 19,O 19,C (jO n X5) X8 [9,10,11,12,13,14,15,16,17,18] [] 20,O 19,C (uw n X5 (1:Int)) X10 [9,10,11,12,13,14,15,16,17,18] [] 21,al 32,al 33,Sn 32,Sn 33,O 32,C (wQ n X9.1 (1:Int) (⟨(true),(false),([]:Bs)⟩:TE0)) X12 [21,22,23,24,25,26,27,28,29,30] [] 34,al 44,Sn 44,O 44,C (uZ n X11.1) X14 [34,35,36,37,38,39,40,41,42,43] [] 45] 37 (ob (λ_ X16=>bs [Re 20 20 47 (tI .i64) X16,X 48,Rd 20 47 0] 43 (bs [] 47 (bs [O 33] 52 (bs [O 33] 57 (bs [] 61 (bs [] 66 (bs [] 71 (ob (λ_ X18=>rt [O 44,C (Bi n X11.1) X18 [34,35,36,37,38,39,40,41,42,43] [] 49])) (rt [])) (rt [])) (rt [])) (rt [])) (rt [])) (rt [])) (rt []))) (rt [])))))))))
theorem bw {α:Type} {xs:List α} {k:Nat} (h:k<xs.length):aq xs (k:Int)=some xs[k]:=by simp[aq,h]
structure Sml (w:bH):Prop where
 ch:w.am.length≤3000000
 tk:w.an.length≤10000000
 ln: ∀c∈w.am,c.bA.length≤3000000
 ow:w.bI.aR.length≤100
 pe:w.bI.cJ.length≤100
 re:w.bI.cM.length≤100
def atV (l:Cv) (id:Bs):Option Nat:=l.findIdx? λc=>decide (c.ci=id)
def hitsV (l:Cv) (ids:List Bs):CD:=ids.filterMap λid=>(atV l id).map Int.ofNat
theorem atV_lt {l:Cv} {id:Bs} {k:Nat} (h:atV l id=some k):k<l.length:=by
 unfold atV at h
 rw[List.findIdx?_eq_some_iff_getElem] at h
 exact h.1
theorem hits_in {l:Cv} {ids:List Bs} {x:Int} (h:x∈hitsV l ids):0≤x∧x<l.length:=by
 obtain⟨id,_,h2⟩:=List.mem_filterMap.1 h
 obtain⟨k,h3,rfl⟩:=Option.map_eq_some_iff.1 h2
 have:=atV_lt h3
 exact⟨Int.natCast_nonneg _,by show((k:Nat):Int)<_;omega⟩
theorem hits_len (l:Cv) (ids:List Bs): (hitsV l ids).length≤ids.length:=List.length_filterMap_le _ _
theorem wn {l:Cv} {ids:List Bs} {q:Nat} (h:q<ids.length):hitsV l (ids.take (q+1))=hitsV l (ids.take q)++((atV l ids[q]).map Int.ofNat).toList:=by
 unfold hitsV
 rw[List.take_succ_eq_append_getElem h,List.filterMap_append]
 congr 1
theorem at_take {l:Cv} {k:Nat} (h:k<l.length) (id:Bs):atV (l.take (k+1)) id=(atV (l.take k) id).or (if l[k].ci=id then some k else none):=by
 unfold atV
 rw[List.take_succ_eq_append_getElem h,List.findIdx?_append]
 congr 1
 by_cases e:l[k].ci=id
 ·simp[e,Nat.min_eq_left (Nat.le_of_lt h)]
 simp[e]
theorem leans_map {n:Nat} (l:Cv): ∀ (k:Nat),k≤l.length→∀m,∃m',iN (jM n) (backI (l.take k)) m=some (.nx m')∧∀id,eS m' id=((atV (l.take k) id).map Int.ofNat).or (eS m id)
 |0,_,m=>⟨m,rfl,λid=>by simp[atV]⟩
 |k+1,h,m=>by
  have hk:k<l.length:=by omega
  obtain⟨m',e,h2⟩:=leans_map (n:=n) l k (by omega) (jv m l[k].ci (k:Int))
  refine⟨m',?_,λid=>?_⟩
  ·rw[back_take hk]
   exact e
  rw[h2,ws,at_take hk]
  cases atV (l.take k) id with
  |some j=>rfl
  |none=>
   by_cases e2:l[k].ci=id
   ·rw[if_pos e2,if_pos e2];rfl
   rw[if_neg e2,if_neg e2];rfl
theorem comp_mem {x:Int} {xs:CD}:x∈Lib.compact xs↔x∈xs:=by
 unfold Lib.compact Lib.compactUpTo
 rw[List.mem_map]
 constructor
 ·rintro⟨j,hj,rfl⟩
  have hj1:j<xs.length:=by simpa using (List.mem_filter.1 hj).1
  have:xs.toArray[j]! =xs[j]:=by simp[hj1]
  rw[this]
  exact List.getElem_mem hj1
 intro hx
 obtain⟨j,hj,rfl⟩:=List.getElem_of_mem hx
 have key: ∀ (j:Nat) (hj:j<xs.length),∃i,i∈ (List.range xs.length).filter (Lib.keeps xs.toArray)∧xs.toArray[i]! =xs[j]:=by
  intro j
  induction j with
  |zero=>intro hj;exact⟨0,List.mem_filter.2 ⟨by simpa using hj,by simp[Lib.keeps]⟩,by simp[hj]⟩
  |succ j ih=>
   intro hj
   by_cases e:xs.toArray[j+1]! =xs.toArray[j]!
   ·obtain⟨i,h1,h2⟩:=ih (by omega)
    refine⟨i,h1,h2.trans ?_⟩
    have e1:xs.toArray[j+1]! =xs[j+1]:=by simp[hj]
    have e2:xs.toArray[j]! =xs[j]:=by simp[show j<xs.length by omega]
    rw[←e1,←e2,e]
   exact⟨j+1,List.mem_filter.2 ⟨by simpa using hj,by simp only[Lib.keeps,Nat.add_sub_cancel];exact dT (.inr e)⟩,by simp[hj]⟩
 exact key j hj
structure LeansOf (l:List cV) (R:List (List Int)):Prop where
 len:R.length=l.length
 row: ∀i (h:i<l.length),∀x,x∈R.getD i []↔x∈hitsV l l[i].bA
 sz: ∀i,i<l.length→(R.getD i []).length≤3000000
theorem su {R:List CD} {i j:Nat} {v:CD} (hi:i<R.length): (R.set i v).getD j []=if i=j then v else R.getD j []:=by
 simp only[List.getD_eq_getElem?_getD,List.getElem?_set]
 by_cases h:i=j
 ·subst h;simp[hi]
 simp[h]
theorem yQ {R:List CD} {k:Nat} (h:k<R.length):aq R (k:Int)=some (R.getD k []):=ji [] h
set_option maxHeartbeats 1000000 in
theorem leans_own {n:Nat} (hn:10000000000001<n) (w:bH) (hc:w.am.length≤3000000) (hl: ∀c∈w.am,c.bA.length≤3000000): ∃R,dc n w false=some R∧LeansOf w.am R:=by
 obtain⟨l,hl0⟩: ∃l,l=w.am:=⟨_,rfl⟩
 rw[←hl0] at hc hl
 obtain⟨m,hm1,hm2⟩:=leans_map (n:=n) l l.length (Nat.le_refl _) []
 rw[List.take_length] at hm1 hm2
 have hm3: ∀id,eS m id=(atV l id).map Int.ofNat:=λid=>by
  rw[hm2]
  cases (atV l id).map Int.ofNat<;>rfl
 unfold dc
 rw[←hl0,di (by omega),hm1,bnd]
 dsimp only
 rw[di ⟨by omega,by omega,by omega⟩]
 obtain⟨R,hR,pR⟩:=dn (step:=dU n w false m) (n:=n) (s0:=((0:Int),List.replicate (l.length:Int).toNat ([]:CD)))
  (λk s=>s.1=(k:Int)∧s.2.length=l.length∧(∀i (h:i<l.length),i<k→(∀x,x∈s.2.getD i []↔x∈hitsV l l[i].bA)∧(s.2.getD i []).length≤3000000)∧∀i,i<l.length→k≤i→s.2.getD i []=[])
  (λR=>LeansOf l R) l.length
  ⟨rfl,by simp,λi _ h=>absurd h (by omega),λi hi _=>by simp[List.getD_eq_getElem?_getD,hi]⟩
  (λk s hk hI=>by
   obtain⟨i0,out⟩:=s
   obtain⟨h1,h2,h3,h4⟩:=hI
   dsimp only at h1 h2 h3 h4
   subst h1
   left
   have hck:=hl l[k] (List.getElem_mem hk)
   unfold dU
   rw[←hl0]
   dsimp only
   rw[dT (by omega),cT,bw hk,bnd,Vc.cF,bnd]
   obtain⟨o2,e2,p2⟩:=dn (step:=jN n m ((k:Int),out) l[k].bA) (n:=n) (s0:=((0:Int),out))
    (λq s=>s.1=(q:Int)∧s.2=out.set k (hitsV l (l[k].bA.take q)))
    (λo=>o=out.set k (hitsV l l[k].bA)) l[k].bA.length
    ⟨rfl,by
     have h5:=h4 k hk (Nat.le_refl _)
     have h6:k<out.length:=by omega
     have h7:out[k]=[]:=by simpa [List.getD_eq_getElem?_getD,h6] using h5
     show out=out.set k (hitsV l (l[k].bA.take 0))
     have h8:hitsV l (l[k].bA.take 0)=out[k]:=by rw[h7];rfl
     rw[h8,List.set_getElem_self]⟩
    (λq s hq hI=>by
     obtain⟨q0,o⟩:=s
     obtain⟨rfl,e⟩:=hI
     dsimp only at e
     subst e
     left
     unfold jN
     dsimp only
     have h6:k<(out.set k (hitsV l (l[k].bA.take q))).length:=by rw[List.length_set];omega
     have hlen:=hits_len l (l[k].bA.take q)
     have hlen2: (l[k].bA.take q).length≤3000000:=by rw[List.length_take];omega
     rw[dT (by omega),cT,bw hq,bnd,hm3]
     cases e:atV l l[k].bA[q] with
     |none=>
      rw[show((none:Option Nat).map Int.ofNat).isSome=false from rfl,Vc.cF,bL (by omega) (by omega)]
      exact⟨_,rfl,by simp,by dsimp only;rw[wn hq,e];simp⟩
     |some j=>
      rw[show((some j:Option Nat).map Int.ofNat).isSome=true from rfl,cT,yQ h6,bnd,su (by omega),if_pos rfl,di (by omega),bL (by omega) (by omega)]
      refine⟨_,rfl,by simp,?_⟩
      dsimp only
      rw[Int.toNat_natCast,List.set_set,wn hq,e]
      rfl)
    (λs hI=>by
     obtain⟨q0,o⟩:=s
     obtain⟨rfl,e⟩:=hI
     dsimp only at e
     subst e
     unfold jN
     dsimp only
     rw[dF (by omega),Vc.cF]
     exact⟨_,rfl,by rw[List.take_length]⟩) (by omega)
   rw[e2,bnd]
   subst p2
   have h6:k<(out.set k (hitsV l l[k].bA)).length:=by rw[List.length_set];omega
   have hlen:=hits_len l l[k].bA
   rw[yQ h6,bnd,su (by omega),if_pos rfl]
   unfold ta
   rw[di (by omega),bnd,Int.toNat_natCast,List.set_set,yQ (by rw[List.length_set];omega),bnd,su (by omega),if_pos rfl]
   unfold oZ
   have hsl:=oQ leI (hitsV l l[k].bA)
   rw[di (by omega),bnd,di ⟨by omega,by omega⟩,bL (by omega) (by omega),Int.toNat_natCast,List.take_length,List.set_set]
   have hcl:=comp_le (sortG leI (hitsV l l[k].bA))
   refine⟨_,rfl,by simp,by dsimp only;rw[List.length_set];exact h2,λi hi hik=>?_,λi hi hik=>?_⟩
   ·dsimp only
    rw[su (by omega)]
    by_cases e:k=i
    ·subst e
     rw[if_pos rfl]
     exact⟨λx=>by rw[comp_mem,(qr _ _).mem_iff],by omega⟩
    rw[if_neg e]
    exact h3 i hi (by omega)
   dsimp only
   rw[su (by omega),if_neg (by omega)]
   exact h4 i hi (by omega))
  (λs hI=>by
   obtain⟨i0,out⟩:=s
   obtain⟨h1,h2,h3,h4⟩:=hI
   dsimp only at h1 h2 h3 h4
   subst h1
   unfold dU
   rw[←hl0]
   dsimp only
   rw[dF (by omega),Vc.cF]
   exact⟨_,rfl,h2,λi hi=>(h3 i hi hi).1,λi hi=>(h3 i hi hi).2⟩) (by omega)
 rw[hR,bnd]
 exact⟨R,rfl,pR⟩
theorem find_ref {n:Nat} (l:Cv) (hl:l.length≤3000000) (hn:10000000000001<n) (id:Bs):kc n l id=some (match atV l id with|some k=>((k:Int),true)|none=>(0,false)):=by
 unfold kc
 obtain⟨b,hb,p⟩:=dn (step:=gE n l id) (n:=n) (s0:=(0:Int)) (λk s=>s=(k:Int)∧atV (l.take k) id=none)
  (λb=>(∃k,b=.inl ((k:Nat):Int)∧atV l id=some k)∨(b=.inr ()∧atV l id=none)) l.length ⟨rfl,rfl⟩
  (λk s hk hI=>by
   obtain⟨rfl,hI⟩:=hI
   unfold gE
   rw[dT (by omega),cT,bw hk,bnd]
   by_cases e:l[k].ci=id
   ·rw[dT e,cT]
    refine .inr ⟨_,rfl,.inl ⟨k,rfl,?_⟩⟩
    unfold atV at hI ⊢
    rw[List.findIdx?_eq_some_iff_getElem]
    refine⟨hk,dT e,λj hj=>?_⟩
    rw[List.findIdx?_eq_none_iff] at hI
    have:=hI l[j] (List.mem_iff_getElem.2 ⟨j,by rw[List.length_take];omega,by simp⟩)
    simpa using this
   rw[dF e,Vc.cF,bL (by omega) (by omega)]
   refine .inl ⟨_,rfl,by simp,?_⟩
   rw[at_take hk,hI,if_neg e];rfl)
  (λs hI=>by
   obtain⟨rfl,hI⟩:=hI
   rw[List.take_length] at hI
   unfold gE
   rw[dF (by omega),Vc.cF]
   exact⟨_,rfl,.inr ⟨rfl,hI⟩⟩) (by omega)
 rw[hb,bnd]
 rcases p with⟨k,rfl,e⟩|⟨rfl,e⟩
 ·rw[e]
 rw[e]
theorem getD_setB {R:CE} {i j:Nat} {v:Bool} (hi:i<R.length): (R.set i v).getD j false=if i=j then v else R.getD j false:=by
 simp only[List.getD_eq_getElem?_getD,List.getElem?_set]
 by_cases h:i=j
 ·subst h;simp[hi]
 simp[h]
set_option maxHeartbeats 1000000 in
theorem yV {n:Nat} (hn:10000000000001<n) (w:bH) (hc:w.am.length≤3000000) (hl: ∀c∈w.am,c.bA.length≤3000000): ∃R,gp n w false=some R∧LeansOf w.am R:=by
 obtain⟨l,hl0⟩: ∃l,l=w.am:=⟨_,rfl⟩
 rw[←hl0] at hc hl
 unfold gp
 obtain⟨R,hR,pR⟩:=dn (step:=eM n w false) (n:=n) (s0:=(([]:List CD),(0:Int)))
  (λk s=>s.2=(k:Int)∧s.1.length=k∧∀i (h:i<l.length),i<k→(∀x,x∈s.1.getD i []↔x∈hitsV l l[i].bA)∧(s.1.getD i []).length≤3000000)
  (λR=>LeansOf l R) l.length ⟨rfl,rfl,λi _ h=>absurd h (by omega)⟩
  (λk s hk hI=>by
   obtain⟨out,i0⟩:=s
   obtain⟨h1,h2,h3⟩:=hI
   dsimp only at h1 h2 h3
   subst h1
   left
   have hck:=hl l[k] (List.getElem_mem hk)
   unfold eM
   rw[←hl0]
   dsimp only
   rw[dT (by omega),cT,bw hk,bnd,Vc.cF,bnd,di ⟨by omega,by omega,by omega⟩]
   obtain⟨got,e2,p2,p3⟩:=dn (step:=eN n w l[k].bA) (n:=n) (s0:=(List.replicate (l.length:Int).toNat (false:Bool),(0:Int)))
    (λq s=>s.2=(q:Int)∧s.1.length=l.length∧∀j,j<l.length→(s.1.getD j false=true↔ (j:Int)∈hitsV l (l[k].bA.take q)))
    (λg=>g.length=l.length∧∀j,j<l.length→(g.getD j false=true↔ (j:Int)∈hitsV l l[k].bA)) l[k].bA.length
    ⟨rfl,by simp,λj hj=>by simp[List.getD_eq_getElem?_getD,hj,hitsV]⟩
    (λq s hq hI=>by
     obtain⟨g,q0⟩:=s
     obtain⟨rfl,g1,g2⟩:=hI
     dsimp only at g1 g2
     left
     unfold eN
     rw[←hl0]
     dsimp only
     rw[dT (by omega),cT,bw hq,bnd,find_ref l hc hn,bnd]
     cases e:atV l l[k].bA[q] with
     |none=>
      dsimp only
      rw[Vc.cF,bL (by omega) (by omega)]
      exact⟨_,rfl,by simp,g1,λj hj=>by dsimp only;rw[g2 j hj,wn hq,e];simp⟩
     |some i=>
      have hi:=atV_lt e
      dsimp only
      have hg:aq g (i:Int)=some g[i]:=bw (by omega)
      rw[cT,hg,bnd,bL (by omega) (by omega)]
      refine⟨_,rfl,by simp,by dsimp only;rw[List.length_set];exact g1,λj hj=>?_⟩
      dsimp only
      rw[Int.toNat_natCast,getD_setB (by omega),wn hq,e]
      by_cases ej:i=j
      ·subst ej
       simp
      rw[if_neg ej,g2 j hj]
      simp
      intro h
      omega)
    (λs hI=>by
     obtain⟨g,q0⟩:=s
     obtain⟨rfl,g1,g2⟩:=hI
     dsimp only at g1 g2
     unfold eN
     dsimp only
     rw[dF (by omega),Vc.cF]
     refine⟨_,rfl,g1,λj hj=>?_⟩
     rw[g2 j hj,List.take_length]) (by omega)
   rw[e2,bnd]
   obtain⟨row,e3,p4,p5⟩:=dn (step:=kU n got) (n:=n) (s0:=(([]:CD),(0:Int)))
    (λq s=>s.2=(q:Int)∧s.1.length≤q∧∀x,x∈s.1↔ ∃j,j<q∧got.getD j false=true∧x=(j:Int))
    (λr=>r.length≤l.length∧∀x,x∈r↔ ∃j,j<l.length∧got.getD j false=true∧x=(j:Int)) got.length
    ⟨rfl,Nat.le_refl _,λx=>by simp⟩
    (λq s hq hI=>by
     obtain⟨r,q0⟩:=s
     obtain⟨rfl,r1,r2⟩:=hI
     dsimp only at r1 r2
     left
     unfold kU
     dsimp only
     have hgd:got.getD q false=got[q]:=by simp[List.getD_eq_getElem?_getD,hq]
     rw[dT (by omega),cT,bw hq,bnd]
     cases e:got[q] with
     |true=>
      rw[cT,di (by omega),bL (by omega) (by omega)]
      refine⟨_,rfl,by simp,by dsimp only;rw[List.length_append];simp;omega,λx=>?_⟩
      dsimp only
      rw[List.mem_append,r2]
      constructor
      ·rintro(⟨j,a,b,c⟩|h)
       ·exact⟨j,by omega,b,c⟩
       exact⟨q,by omega,by rw[hgd,e],by simpa using h⟩
      rintro⟨j,a,b,c⟩
      by_cases ej:j=q
      ·subst ej;exact .inr (by simpa using c)
      exact .inl ⟨j,by omega,b,c⟩
     |false=>
      rw[Vc.cF,bL (by omega) (by omega)]
      refine⟨_,rfl,by simp,by dsimp only;omega,λx=>?_⟩
      dsimp only
      rw[r2]
      constructor
      ·rintro⟨j,a,b,c⟩
       exact⟨j,by omega,b,c⟩
      rintro⟨j,a,b,c⟩
      by_cases ej:j=q
      ·subst ej;rw[hgd,e] at b;cases b
      exact⟨j,by omega,b,c⟩)
    (λs hI=>by
     obtain⟨r,q0⟩:=s
     obtain⟨rfl,r1,r2⟩:=hI
     dsimp only at r1 r2
     unfold kU
     dsimp only
     rw[dF (by omega),Vc.cF]
     exact⟨_,rfl,by omega,λx=>by rw[r2,p2]⟩) (by omega)
   rw[e3,bnd,di (by omega),bL (by omega) (by omega)]
   refine⟨_,rfl,by simp,by dsimp only;rw[List.length_append];simp;omega,λi hi hik=>?_⟩
   dsimp only
   by_cases ei:i=k
   ·subst ei
    have: (out++[row]).getD i []=row:=by simp[List.getD_eq_getElem?_getD,←h2]
    rw[this]
    refine⟨λx=>?_,by omega⟩
    rw[p5]
    constructor
    ·rintro⟨j,a,b,rfl⟩
     exact(p3 j a).1 b
    intro hx
    obtain⟨x0,x1⟩:=hits_in hx
    obtain⟨j,rfl⟩:=Int.eq_ofNat_of_zero_le x0
    exact⟨j,by omega,(p3 j (by omega)).2 hx,rfl⟩
   have: (out++[row]).getD i []=out.getD i []:=by
    rw[List.getD_eq_getElem?_getD,List.getD_eq_getElem?_getD,List.getElem?_append_left (by omega)]
   rw[this]
   exact h3 i hi (by omega))
  (λs hI=>by
   obtain⟨out,i0⟩:=s
   obtain⟨h1,h2,h3⟩:=hI
   dsimp only at h1 h2 h3
   subst h1
   unfold eM
   rw[←hl0]
   dsimp only
   rw[dF (by omega),Vc.cF]
   exact⟨_,rfl,h2,λi hi=>(h3 i hi hi).1,λi hi=>(h3 i hi hi).2⟩) (by omega)
 rw[hR,bnd]
 exact⟨R,rfl,hl0▸pR⟩
def keptC (c:cV):cV:=⟨c.ci,c.aA,c.bB,c.bk,c.bV,c.sq,c.bI,bif decide (c.aA=4) then [] else c.bA⟩
def keptL (l:Cv):Cv:=l.map keptC
def keptW (w:bH):bH:=⟨w.aA,w.co,w.bI,w.ig,w.be,w.bG,keptL w.am,w.an,w.aJ,w.cm⟩
theorem jj (l:Cv): (keptL l).length=l.length:=by simp[keptL]
theorem vn {l:Cv} (hl: ∀c∈l,c.bA.length≤3000000): ∀c∈keptL l,c.bA.length≤3000000:=λc hc=>by
 obtain⟨d,hd,rfl⟩:=List.mem_map.1 hc
 have:=hl d hd
 show(bif decide (d.aA=4) then [] else d.bA).length≤3000000
 cases decide (d.aA=4)
 ·exact this
 exact Nat.zero_le _
theorem kept_take {l:Cv} {k:Nat} (h:k<l.length): (l.take (k+1)).map keptC=(l.take k).map keptC++[keptC l[k]]:=by
 rw[List.take_succ_eq_append_getElem h,List.map_append];rfl
theorem kept_ref {n:Nat} (hn:10000000000001<n) (w:bH) (hc:w.am.length≤3000000):qo n w=some (keptW w):=by
 unfold qo
 obtain⟨b,hb,rfl⟩:=dn (step:=mv n w) (n:=n) (s0:=(([]:Cv),(0:Int))) (λk s=>s.2=(k:Int)∧s.1=(w.am.take k).map keptC) (λb=>b=keptL w.am) w.am.length ⟨rfl,rfl⟩
  (λk s hk hI=>by
   obtain⟨o,i⟩:=s
   obtain⟨rfl,e⟩:=hI
   dsimp only at e
   subst e
   left
   unfold mv
   dsimp only
   have hlen: ((w.am.take k).map keptC).length=k:=by simp;omega
   rw[dT (by omega),cT,bw hk,bnd]
   by_cases e:w.am[k].aA=4
   ·rw[dT e,cT,bnd,di (by omega),bL (by omega) (by omega)]
    refine⟨_,rfl,by simp,?_⟩
    dsimp only
    rw[kept_take hk]
    unfold keptC
    rw[dT e,cT]
   rw[dF e,Vc.cF,bnd,di (by omega),bL (by omega) (by omega)]
   refine⟨_,rfl,by simp,?_⟩
   dsimp only
   rw[kept_take hk]
   unfold keptC
   rw[dF e,Vc.cF])
  (λs hI=>by
   obtain⟨o,i⟩:=s
   obtain⟨rfl,e⟩:=hI
   dsimp only at e
   subst e
   unfold mv
   dsimp only
   rw[dF (by omega),Vc.cF]
   exact⟨_,rfl,by rw[List.take_length];rfl⟩) (by omega)
 rw[hb,bnd]
 rfl
theorem leans25 {n:Nat} (hn:10000000000001<n) (w:bH) (hs:Sml w): ∃R,ra n w=some R∧LeansOf (keptL w.am) R:=by
 obtain⟨R,e,p⟩:=yV hn (keptW w) (by show(keptL w.am).length≤3000000;rw[jj];exact hs.ch) (vn hs.ln)
 refine⟨R,?_,p⟩
 unfold ra
 rw[kept_ref hn w hs.ch,bnd,e,bnd]
theorem keep_same {c:cV} (h: ¬c.aA=4):keptC c=c:=by
 unfold keptC
 rw[dF h,Vc.cF]
theorem leans_fwd {n:Nat} (hn:10000000000001<n) (w:bH) (hs:Sml w): ∃R,lX n w=some R∧LeansOf (keptL w.am) R:=by
 obtain⟨R,e,p⟩:=leans_own hn (keptW w) (by show(keptL w.am).length≤3000000;rw[jj];exact hs.ch) (vn hs.ln)
 refine⟨R,?_,p⟩
 have hc:=hs.ch
 unfold lX ce
 rw[di (by omega),bnd]
 obtain⟨b,hb,rfl⟩:=dn (step:=jh n w.am) (n:=n) (s0:=((0:Int),w.am)) (λk s=>s.1=(k:Int)∧s.2.length=w.am.length∧∀j (h:j<w.am.length),s.2[j]? =some (if j<k then keptC w.am[j] else w.am[j])) (λb=>b=keptL w.am) w.am.length
  ⟨rfl,rfl,λj h=>by rw[if_neg (by omega)];exact List.getElem?_eq_getElem h⟩
  (λk s hk hI=>by
   obtain⟨i,o⟩:=s
   obtain⟨rfl,ho,e⟩:=hI
   dsimp only at ho e
   left
   unfold jh
   dsimp only
   have hg:aq o (k:Int)=some w.am[k]:=by
    have:=e k hk
    rw[if_neg (by omega)] at this
    simpa [aq] using this
   rw[dT (by omega),cT,hg,bnd]
   by_cases e4:w.am[k].aA=4
   ·rw[dT e4,cT,bnd,bL (by omega) (by omega)]
    refine⟨_,rfl,by simp,by dsimp only;rw[List.length_set];exact ho,λj hj=>?_⟩
    dsimp only
    rw[Int.toNat_natCast,List.getElem?_set]
    by_cases ej:k=j
    ·subst ej
     rw[if_pos rfl,if_pos (by omega),if_pos (by omega)]
     unfold keptC
     rw[dT e4,cT]
    rw[if_neg ej,e j hj]
    by_cases ek:j<k
    ·rw[if_pos ek,if_pos (by omega)]
    rw[if_neg ek,if_neg (by omega)]
   rw[dF e4,Vc.cF,bL (by omega) (by omega)]
   refine⟨_,rfl,by simp,ho,λj hj=>?_⟩
   dsimp only
   rw[e j hj]
   by_cases ej:j=k
   ·subst ej;rw[if_neg (by omega),if_pos (by omega),keep_same e4]
   by_cases ek:j<k
   ·rw[if_pos ek,if_pos (by omega)]
   rw[if_neg ek,if_neg (by omega)])
  (λs hI=>by
   obtain⟨i,o⟩:=s
   obtain⟨rfl,ho,e⟩:=hI
   dsimp only at ho e
   unfold jh
   dsimp only
   rw[dF (by omega),Vc.cF]
   refine⟨_,rfl,List.ext_getElem? λj=>?_⟩
   by_cases hj:j<w.am.length
   ·rw[e j hj,if_pos hj]
    simp[keptL,hj]
   rw[List.getElem?_eq_none (by omega),List.getElem?_eq_none (by rw[jj];omega)]) (by omega)
 rw[hb,bnd]
 exact congrArg (λo=>Option.bind o λx=>some x) e
def isT (i p:Int) (t:dq):Bool:=decide (t.aX=i)&&decide (t.aJ=p)
theorem any_takeT {α:Type} {l:List α} {k:Nat} (h:k<l.length) (q:α→Bool): (l.take (k+1)).any q=((l.take k).any q||q l[k]):=by
 rw[List.take_succ_eq_append_getElem h,List.any_append];simp
theorem any_here {α:Type} {l:List α} {k:Nat} (h:k<l.length) {q:α→Bool} (hq:q l[k]=true):l.any q=true:=List.any_eq_true.2 ⟨_,List.getElem_mem h,hq⟩
theorem task_own {n:Nat} (hn:10000000000001<n) (w:bH) (ht:w.an.length≤10000000) (i p:Int): ∃r,jg n w i p=some r∧r.2=w.an.any (isT i p)∧(r.2=true→r.1∈w.an):=by
 unfold jg lW
 obtain⟨b,hb,pb⟩:=dn (step:=gL n w.an i p) (n:=n) (s0:=((0:Int),(⟨(0:Int),(0:Int),yJ,(0:Int),([]:Bs)⟩:dq)))
  (λk s=>s.1=(k:Int)∧(w.an.take k).any (isT i p)=false)
  (λb=>(∃k,∃h:k<w.an.length,isT i p w.an[k]=true∧b=.inl w.an[k])∨(∃y,b=.inr y)∧w.an.any (isT i p)=false) w.an.length ⟨rfl,rfl⟩
  (λk s hk hI=>by
   obtain⟨i0,o⟩:=s
   obtain⟨rfl,e⟩:=hI
   unfold gL kz
   dsimp only
   rw[dT (by omega),cT,bw hk,bnd]
   have hno:isT i p w.an[k]=false→∃s',(some (Lp.nx ((k:Int)+1,o)):Option (Lp _ (Sum dq dq)))=some (.nx s')∧s'.1=((k+1:Nat):Int)∧(w.an.take (k+1)).any (isT i p)=false:=λh=>⟨_,rfl,by simp,by rw[any_takeT hk,e,h];rfl⟩
   by_cases e1:w.an[k].aX=i
   ·rw[dT e1,cT,bnd]
    by_cases e2:w.an[k].aJ=p
    ·rw[dT e2,cT,bnd]
     exact .inr ⟨_,rfl,.inl ⟨k,hk,by unfold isT;rw[dT e1,dT e2];rfl,rfl⟩⟩
    rw[dF e2,Vc.cF,bL (by omega) (by omega)]
    exact .inl (hno (by unfold isT;rw[dF e2,Bool.and_false]))
   rw[dF e1,Vc.cF,bnd,Vc.cF,bL (by omega) (by omega)]
   exact .inl (hno (by unfold isT;rw[dF e1,Bool.false_and])))
  (λs hI=>by
   obtain⟨i0,o⟩:=s
   obtain⟨rfl,e⟩:=hI
   rw[List.take_length] at e
   unfold gL
   dsimp only
   rw[dF (by omega),Vc.cF]
   exact⟨_,rfl,.inr ⟨⟨_,rfl⟩,e⟩⟩) (by omega)
 rw[hb,bnd]
 rcases pb with⟨k,hk,h1,rfl⟩|⟨⟨y,rfl⟩,h1⟩
 ·exact⟨_,rfl,(any_here hk h1).symm,λ_=>List.getElem_mem hk⟩
 exact⟨_,rfl,h1.symm,λh=>by cases h⟩
theorem task_ref {n:Nat} (hn:10000000000001<n) (w:bH) (ht:w.an.length≤10000000) (i p:Int):Tot (qn n w i p) λr=>r.2=w.an.any (isT i p)∧(r.2=true→r.1∈w.an∧isT i p r.1=true):=by
 unfold qn
 refine Tot.b (Tot.m (R:=λb=>match b with|.inl t=>t∈w.an∧isT i p t=true|.inr _=>∀t∈w.an,isT i p t=false) (Tot.lm w.an (λs=>s.1) (λt=>isT i p t=false) (λ_=>True) (by omega) rfl trivial (Q:=λb:Sum dq dq=>match b with|.inl t=>t∈w.an∧isT i p t=true|.inr _=>∀t∈w.an,isT i p t=false) λs h1 _ hm=>?_) λb hb=>?_)
 ·unfold xt
  refine Tot.cd (λh2=>?_) λh2=>Tot.sb (cu h2 hm)
  obtain⟨t,he,htm,hk⟩: ∃t,aq w.an s.1=some t∧t∈w.an∧(isT i p t=false→∀y∈w.an.take (s.1+1).toNat,isT i p y=false):=Tot.gm (Q:=λt=>t∈w.an∧(isT i p t=false→∀y∈w.an.take (s.1+1).toNat,isT i p y=false)) ⟨h1,h2⟩ λx hx ht=>⟨hx,λh=>ht hm h⟩
  refine Tot.b (Tot.m (R:=λb=>b=isT i p t) (Tot.b (Tot.ge he (Tot.cd (λh=>Tot.b (Tot.ge he (Tot.s (by simp[isT,h])))) λh=>Tot.s (by simp[isT,h])))) λb hb=>Tot.c (λh=>Tot.b (Tot.ge he (Tot.sb ⟨htm,by rw[←hb,h]⟩))) λh=>Tot.i (by omega) (Tot.sn ⟨h2,rfl,hk (by rw[←hb,h]),trivial⟩))
 cases b with
 |inl t=>exact Tot.s ⟨(List.any_eq_true.2 ⟨t,hb⟩).symm,λ_=>hb⟩
 |inr _=>exact Tot.s ⟨(List.any_eq_false.2 λt ht=>by rw[hb t ht];simp).symm,by simp⟩
theorem xQ {α β:Type} {step:List β×Int→Option (Lp (List β×Int) (List β))} {n:Nat} (l:List α) (f:α→β) (acc:List β)
 (hs: ∀k (h:k<l.length) o,o.length=acc.length+k→step (o,(k:Int))=some (.nx (o++[f l[k]],(k:Int)+1))) (he: ∀o,step (o,(l.length:Int))=some (.br o)) (hn:l.length<n):av step n (acc,(0:Int))=some (acc++l.map f):=by
 have:=loop_all (step:=step) (n:=n) (λk=>(acc++(l.take k).map f,(k:Int))) l.length (acc++l.map f) (λk hk=>by
  rw[hs k hk _ (by rw[List.length_append,List.length_map,List.length_take];omega)]
  rw[List.take_succ_eq_append_getElem hk,List.map_append,List.append_assoc]
  simp) (by rw[he];simp) hn
 simpa using this
def liveV (s:gH):List Bs:=s.aR.map (·.bm)++s.cJ.map (·.bm)++s.cM.map (·.bm)
structure SmS (s:gH):Prop where
 ow:s.aR.length≤100
 pe:s.cJ.length≤100
 re:s.cM.length≤100
theorem live_len {s:gH} (h:SmS s): (liveV s).length≤300:=by
 have:=h.ow;have:=h.pe;have:=h.re
 simp only[liveV,List.length_append,List.length_map]
 omega
theorem live_in {n:Nat} (hn:10000000000001<n) (l:CB) (i:Int) (acc:List Bs) (hl:l.length≤100) (ha:acc.length≤300):av (mw n (l,i)) n (acc,(0:Int))=some (acc++l.map (·.bm)):=
 xQ l (·.bm) acc (λk hk o ho=>by
  unfold mw
  dsimp only
  rw[dT (by omega),cT,bw hk,bnd,di (by omega),bL (by omega) (by omega)])
  (λo=>by
   unfold mw
   dsimp only
   rw[dF (by omega),Vc.cF]) (by omega)
theorem live_own {n:Nat} (hn:10000000000001<n) (s:gH) (h:SmS s):um n s=some (liveV s):=by
 have h1:=h.ow;have h2:=h.pe;have h3:=h.re
 unfold um
 have e0:dr n s (([]:List Bs),(0:Int))=some (.nx (s.aR.map (·.bm),(0:Int)+1)):=by
  unfold dr
  dsimp only
  rw[dT (by omega),cT,di (by omega),dT rfl,cT,bnd,live_in hn _ _ _ h1 (by simp),bnd]
  rw[bL (by omega) (by omega)]
  rfl
 have e1:dr n s (s.aR.map (·.bm),(0:Int)+1)=some (.nx (s.aR.map (·.bm)++s.cJ.map (·.bm),(1:Int)+1)):=by
  unfold dr
  dsimp only
  rw[dT (by omega),cT,di (by omega),dF (by omega),Vc.cF,dT (by omega),cT,bnd,live_in hn _ _ _ h2 (by rw[List.length_map];omega),bnd]
  rw[bL (by omega) (by omega)]
 have e2:dr n s (s.aR.map (·.bm)++s.cJ.map (·.bm),(1:Int)+1)=some (.nx (liveV s,(2:Int)+1)):=by
  unfold dr
  dsimp only
  rw[dT (by omega),cT,di (by omega),dF (by omega),Vc.cF,dF (by omega),Vc.cF,bnd,live_in hn _ _ _ h3 (by rw[List.length_append,List.length_map,List.length_map];omega),bnd]
  rw[bL (by omega) (by omega)]
  rfl
 have e3:dr n s (liveV s,(2:Int)+1)=some (.br (liveV s)):=by
  unfold dr
  dsimp only
  rw[dF (by omega),Vc.cF]
 obtain⟨m,rfl⟩: ∃m,n=m+4:=⟨n-4,by omega⟩
 have e:av (dr (m+4) s) (m+4) (([]:List Bs),(0:Int))=some (liveV s):=by
  simp only[av,e0,e1,e2,e3,bnd]
 rw[e,bnd]
theorem live_ref {n:Nat} (hn:10000000000001<n) (s:gH) (h:SmS s):uf n s=some (liveV s):=by
 have h1:=h.ow;have h2:=h.pe;have h3:=h.re
 unfold uf
 have a1:av (mq n s) n (([]:List Bs),(0:Int))=some ([]++s.aR.map (·.bm)):=xQ s.aR (·.bm) [] (λk hk o ho=>by
  have ho':o.length=k:=by simpa using ho
  unfold mq
  dsimp only
  rw[dT (by omega),cT,bw hk,bnd,di (by omega),bL (by omega) (by omega)]) (λo=>by
  unfold mq
  dsimp only
  rw[dF (by omega),Vc.cF]) (by omega)
 have a2:av (mr n s) n ([]++s.aR.map (·.bm),(0:Int))=some ([]++s.aR.map (·.bm)++s.cJ.map (·.bm)):=xQ s.cJ (·.bm) _ (λk hk o ho=>by
  rw[List.nil_append,List.length_map] at ho
  unfold mr
  dsimp only
  rw[dT (by omega),cT,bw hk,bnd,di (by omega),bL (by omega) (by omega)]) (λo=>by
  unfold mr
  dsimp only
  rw[dF (by omega),Vc.cF]) (by omega)
 have a3:av (mt n s) n ([]++s.aR.map (·.bm)++s.cJ.map (·.bm),(0:Int))=some ([]++s.aR.map (·.bm)++s.cJ.map (·.bm)++s.cM.map (·.bm)):=xQ s.cM (·.bm) _ (λk hk o ho=>by
  rw[List.nil_append,List.length_append,List.length_map,List.length_map] at ho
  unfold mt
  dsimp only
  rw[dT (by omega),cT,bw hk,bnd,di (by omega),bL (by omega) (by omega)]) (λo=>by
  unfold mt
  dsimp only
  rw[dF (by omega),Vc.cF]) (by omega)
 rw[a1,bnd,a2,bnd,a3,bnd]
 rfl
structure Chk (s:gH):Prop where
 up: ∀j (h:j+1<s.aR.length),Op.bytesLess s.aR[j].ci s.aR[j+1].ci=true
 nd: (liveV s).Nodup
 ca:0≤s.oY∧s.oY≤1099511627776
 st:0≤s.cm∧s.cm≤6
theorem check_ref {n:Nat} (hn:10000000000001<n) (s:gH) (h:SmS s): ∃c,nc n s=some c∧(c=0→Chk s):=by
 have h1:=h.ow
 have hlv:=live_len h
 unfold nc
 obtain⟨b,hb,pb⟩:=dn (step:=kP n s) (n:=n) (s0:=(1:Int)) (λk t=>t=((k+1:Nat):Int)∧∀j (h:j+1<s.aR.length),j<k→Op.bytesLess s.aR[j].ci s.aR[j+1].ci=true)
  (λb=>∀u,b=.inr u→∀j (h:j+1<s.aR.length),Op.bytesLess s.aR[j].ci s.aR[j+1].ci=true) (s.aR.length-1) ⟨rfl,λj _ h=>absurd h (by omega)⟩
  (λk t hk hI=>by
   obtain⟨rfl,hI⟩:=hI
   unfold kP
   have e1: ((k+1:Nat):Int)-1=(k:Int):=by omega
   rw[dT (by omega),cT,e1,bL (by omega) (by omega),bw (show k<s.aR.length by omega),bnd,bw (show k+1<s.aR.length by omega),bnd]
   cases e:Op.bytesLess s.aR[k].ci s.aR[k+1].ci with
   |false=>rw[nF,cT];exact .inr ⟨_,rfl,λu h=>by cases h⟩
   |true=>
    rw[nT,Vc.cF,bL (by omega) (by omega)]
    refine .inl ⟨_,rfl,by simp,λj hj hjk=>?_⟩
    by_cases ej:j=k
    ·subst ej;exact e
    exact hI j hj (by omega))
  (λt hI=>by
   obtain⟨rfl,hI⟩:=hI
   unfold kP
   rw[dF (by omega),Vc.cF]
   exact⟨_,rfl,λ_ _ j hj=>hI j hj (by omega)⟩) (by omega)
 rw[hb,bnd]
 cases b with
 |inl u=>exact⟨_,rfl,λh=>by cases h⟩
 |inr u=>
  have hup:=pb u rfl
  dsimp only
  rw[live_ref hn s h,bnd]
  obtain⟨lv,hlv0⟩: ∃lv,lv=liveV s:=⟨_,rfl⟩
  rw[←hlv0] at hlv ⊢
  obtain⟨b,hb,pb⟩:=dn (step:=kQ n lv) (n:=n) (s0:=(0:Int)) (λk t=>t=(k:Int)∧∀i j (hi:i<lv.length) (hj:j<lv.length),i<j→j<k→lv[i]≠lv[j])
   (λb=>∀u,b=.inr u→lv.Nodup) lv.length ⟨rfl,λi j _ _ _ h=>absurd h (by omega)⟩
   (λk t hk hI=>by
    obtain⟨rfl,hI⟩:=hI
    unfold kQ
    rw[dT (by omega),cT]
    obtain⟨b,hb,pb⟩:=dn (step:=kT n lv (k:Int)) (n:=n) (s0:=(0:Int)) (λq t=>t=(q:Int)∧∀i (hi:i<lv.length),i<q→lv[i]≠lv[k])
     (λb=>∀u,b=.inr u→∀i (hi:i<lv.length),i<k→lv[i]≠lv[k]) k ⟨rfl,λi _ h=>absurd h (by omega)⟩
     (λq t hq hI=>by
      obtain⟨rfl,hI⟩:=hI
      unfold kT
      rw[dT (by omega),cT,bw (show q<lv.length by omega),bnd,bw hk,bnd]
      by_cases e:lv[q]=lv[k]
      ·rw[dT e,cT];exact .inr ⟨_,rfl,λu h=>by cases h⟩
      rw[dF e,Vc.cF,bL (by omega) (by omega)]
      refine .inl ⟨_,rfl,by simp,λi hi hiq=>?_⟩
      by_cases ei:i=q
      ·subst ei;exact e
      exact hI i hi (by omega))
     (λt hI=>by
      obtain⟨rfl,hI⟩:=hI
      unfold kT
      rw[dF (by omega),Vc.cF]
      exact⟨_,rfl,λ_ _ i hi hik=>hI i hi hik⟩) (by omega)
    rw[hb,bnd]
    cases b with
    |inl u=>exact .inr ⟨_,rfl,λu h=>by cases h⟩
    |inr u=>
     have hne:=pb u rfl
     dsimp only
     rw[bL (by omega) (by omega)]
     refine .inl ⟨_,rfl,by simp,λi j hi hj hij hjk=>?_⟩
     by_cases ej:j=k
     ·subst ej;exact hne i hi hij
     exact hI i j hi hj hij (by omega))
   (λt hI=>by
    obtain⟨rfl,hI⟩:=hI
    unfold kQ
    rw[dF (by omega),Vc.cF]
    exact⟨_,rfl,λ_ _=>List.pairwise_iff_getElem.2 λi j hi hj hij=>hI i j hi hj hij hj⟩) (by omega)
  rw[hb,bnd]
  cases b with
  |inl u=>exact⟨_,rfl,λh=>by cases h⟩
  |inr u=>
   have hnd:=pb u rfl
   dsimp only
   by_cases a1:s.oY<0
   ·rw[dT a1,cT];exact⟨_,rfl,λh=>by cases h⟩
   rw[dF a1,Vc.cF]
   by_cases a2: (1099511627776:Int)<s.oY
   ·rw[dT a2,cT];exact⟨_,rfl,λh=>by cases h⟩
   rw[dF a2,Vc.cF]
   by_cases a3:s.cm<0
   ·rw[dT a3,cT];exact⟨_,rfl,λh=>by cases h⟩
   rw[dF a3,Vc.cF]
   by_cases a4: (6:Int)<s.cm
   ·rw[dT a4,cT];exact⟨_,rfl,λh=>by cases h⟩
   rw[dF a4,Vc.cF]
   exact⟨_,rfl,λ_=>⟨hup,hlv0▸hnd,by omega,by omega⟩⟩
theorem comp_nodup {α:Type} [Inhabited α] [DecidableEq α] {xs:List α} (h:xs.Nodup): (Lib.compact xs).length=xs.length:=by
 unfold Lib.compact Lib.compactUpTo
 rw[List.length_map,List.filter_eq_self.2 λj hj=>?_,List.length_range]
 have hj1:j<xs.length:=by simpa using hj
 unfold Lib.keeps
 refine dT ?_
 cases j with
 |zero=>exact .inl rfl
 |succ j=>
  refine .inr λe=>?_
  have e1:xs.toArray[j+1]! =xs[j+1]:=by simp[hj1]
  have e2:xs.toArray[j+1-1]! =xs[j]:=by simp[show j<xs.length by omega]
  rw[e1,e2] at e
  have:=(List.getElem_inj h).1 e
  omega
theorem check_own {n:Nat} (hn:10000000000001<n) (s:gH) (h:SmS s) (hc:Chk s):rh n s=some 0:=by
 have h1:=h.ow
 have hlv:=live_len h
 have hsl:=oQ leS (liveV s)
 have hnd: (sortG leS (liveV s)).Nodup:=(qr leS (liveV s)).nodup_iff.2 hc.nd
 have hcn:=comp_nodup hnd
 obtain⟨c1,c2⟩:=hc.ca
 obtain⟨s1,s2⟩:=hc.st
 unfold rh
 rw[live_own hn s h,bnd]
 unfold tb
 rw[di (by omega),bnd]
 unfold cS
 rw[di (by omega),bnd]
 unfold pc
 rw[di (by omega),bnd,hcn,dT rfl,nT,Vc.cF,dF (by omega),Vc.cF,dF (by omega),Vc.cF,dF (by omega),Vc.cF,dF (by omega),bnd,Vc.cF]
 obtain⟨b,hb,⟨u,rfl⟩⟩:=dn (step:=lb n s) (n:=n) (s0:=(1:Int)) (λk t=>t=((k+1:Nat):Int))
  (λb=>∃u,b=.inr u) (s.aR.length-1) rfl
  (λk t hk hI=>by
   subst hI
   unfold lb sd
   have e1: ((k+1:Nat):Int)-1=(k:Int):=by omega
   rw[dT (by omega),cT,e1,bL (by omega) (by omega),bw (show k<s.aR.length by omega),bnd,bw (show k+1<s.aR.length by omega),bnd,hc.up k (by omega),cT,bnd,dF (by omega),Vc.cF,bL (by omega) (by omega)]
   exact .inl ⟨_,rfl,by simp⟩)
  (λt hI=>by
   subst hI
   unfold lb
   rw[dF (by omega),Vc.cF]
   exact⟨_,rfl,_,rfl⟩) (by omega)
 rw[hb,bnd]
structure Okt (w:bH):Prop where
 wd:1≤w.co∧w.co≤4
 ph:0≤w.aJ∧w.aJ≤3
 ck:Chk w.bI
 tk: ∀k (h:k<w.an.length),w.an[k].cP.gX=(k:Int)+1∧0≤w.an[k].aX∧w.an[k].aX<w.am.length∧0≤w.an[k].bW∧w.an[k].bW≤2∧0≤w.an[k].aJ∧w.an[k].aJ≤2
 un: ∀j k (hj:j<w.an.length) (hk:k<w.an.length),j<k→¬ (w.an[j].aX=w.an[k].aX∧w.an[j].aJ=w.an[k].aJ)
 ah: ∀i (h:i<(keptL w.am).length),∀x∈hitsV (keptL w.am) (keptL w.am)[i].bA,x<(i:Int)
theorem eta_S (s:gH): (⟨s.aR,s.cJ,s.cM,s.bM,s.be,s.bG,s.oY,s.cm⟩:gH)=s:=by cases s;rfl
theorem ahead_ref {n:Nat} (hn:10000000000001<n) (R:List CD) (hR:R.length≤3000000) (hr: ∀i,i<R.length→(R.getD i []).length≤3000000): ∃m,rg n R=some m∧(m=true→∀i,i<R.length→∀x∈R.getD i [],x<(i:Int)):=by
 unfold rg
 obtain⟨b,hb,pb⟩:=dn (step:=kX n R) (n:=n) (s0:=(0:Int)) (λk t=>t=(k:Int)∧∀i,i<k→∀x∈R.getD i [],x<(i:Int)) (λb=>∀u,b=.inr u→∀i,i<R.length→∀x∈R.getD i [],x<(i:Int)) R.length ⟨rfl,λi h=>absurd h (by omega)⟩
  (λk t hk hI=>by
   obtain⟨rfl,hI⟩:=hI
   have hrk:=hr k hk
   unfold kX
   rw[dT (by omega),cT]
   obtain⟨b,hb,pb⟩:=dn (step:=kY n R (k:Int)) (n:=n) (s0:=(0:Int)) (λq t=>t=(q:Int)∧∀j (h:j<(R.getD k []).length),j<q→(R.getD k [])[j]<(k:Int)) (λb=>∀u,b=.inr u→∀x∈R.getD k [],x<(k:Int)) (R.getD k []).length ⟨rfl,λj _ h=>absurd h (by omega)⟩
    (λq t hq hI=>by
     obtain⟨rfl,hI⟩:=hI
     unfold kY
     rw[yQ hk,bnd,dT (by omega),cT,bnd,bw hq,bnd]
     by_cases e: (k:Int)≤(R.getD k [])[q]
     ·rw[dT e,cT];exact .inr ⟨_,rfl,λu h=>by cases h⟩
     rw[dF e,Vc.cF,bL (by omega) (by omega)]
     refine .inl ⟨_,rfl,by simp,λj hj hjq=>?_⟩
     by_cases ej:j=q
     ·subst ej;omega
     exact hI j hj (by omega))
    (λt hI=>by
     obtain⟨rfl,hI⟩:=hI
     unfold kY
     rw[yQ hk,bnd,dF (by omega),Vc.cF]
     exact⟨_,rfl,λ_ _ x hx=>by obtain⟨j,hj,rfl⟩:=List.getElem_of_mem hx;exact hI j hj hj⟩) (by omega)
   rw[hb,bnd]
   cases b with
   |inl u=>exact .inr ⟨_,rfl,λu h=>by cases h⟩
   |inr u=>
    have h2:=pb u rfl
    dsimp only
    rw[bL (by omega) (by omega)]
    refine .inl ⟨_,rfl,by simp,λi hi=>?_⟩
    by_cases ei:i=k
    ·subst ei;exact h2
    exact hI i (by omega))
  (λt hI=>by
   obtain⟨rfl,hI⟩:=hI
   unfold kX
   rw[dF (by omega),Vc.cF]
   exact⟨_,rfl,λ_ _=>hI⟩) (by omega)
 rw[hb,bnd]
 cases b with
 |inl u=>exact⟨_,rfl,λh=>by cases h⟩
 |inr u=>exact⟨_,rfl,λ_=>pb u rfl⟩
set_option maxHeartbeats 1000000 in
theorem AM {n:Nat} (hn:10000000000001<n) (w:bH) (hs:Sml w): ∃m,lO n w=some m∧(m=true→Okt w):=by
 have ht:=hs.tk
 have hc:=hs.ch
 obtain⟨c,hck,pck⟩:=check_ref hn w.bI ⟨hs.ow,hs.pe,hs.re⟩
 obtain⟨R,hR,pR⟩:=yV hn (keptW w) (by show(keptL w.am).length≤3000000;rw[jj];exact hs.ch) (vn hs.ln)
 replace pR:LeansOf (keptL w.am) R:=pR
 have hRl:R.length=w.am.length:=by rw[pR.len,jj]
 obtain⟨m,hm,pm⟩:=ahead_ref hn R (by omega) (λi hi=>pR.sz i (by rw[jj];omega))
 obtain⟨b,hb,pb⟩:=dn (step:=oJ n w) (n:=n) (s0:=(0:Int))
  (λk t=>t=(k:Int)∧(∀j (h:j<w.an.length),j<k→w.an[j].cP.gX=(j:Int)+1∧0≤w.an[j].aX∧w.an[j].aX<w.am.length∧0≤w.an[j].bW∧w.an[j].bW≤2∧0≤w.an[j].aJ∧w.an[j].aJ≤2)∧∀i j (hi:i<w.an.length) (hj:j<w.an.length),i<j→j<k→¬ (w.an[i].aX=w.an[j].aX∧w.an[i].aJ=w.an[j].aJ))
  (λb=>∀u,b=.inr u→(∀j (h:j<w.an.length),w.an[j].cP.gX=(j:Int)+1∧0≤w.an[j].aX∧w.an[j].aX<w.am.length∧0≤w.an[j].bW∧w.an[j].bW≤2∧0≤w.an[j].aJ∧w.an[j].aJ≤2)∧∀i j (hi:i<w.an.length) (hj:j<w.an.length),i<j→¬ (w.an[i].aX=w.an[j].aX∧w.an[i].aJ=w.an[j].aJ))
  w.an.length ⟨rfl,λj _ h=>absurd h (by omega),λi j _ _ _ h=>absurd h (by omega)⟩
  (λk t hk hI=>by
   obtain⟨rfl,hI,hU⟩:=hI
   unfold oJ
   rw[dT (by omega),cT,bw hk,bnd,bL (by omega) (by omega)]
   by_cases a1:w.an[k].cP.gX=(k:Int)+1
   case neg=>rw[dF a1,nF,cT,bnd,cT];exact .inr ⟨_,rfl,λu h=>by cases h⟩
   rw[dT a1,nT,Vc.cF]
   by_cases a2:w.an[k].aX<0
   ·rw[dT a2,cT,bnd,cT];exact .inr ⟨_,rfl,λu h=>by cases h⟩
   rw[dF a2,Vc.cF]
   by_cases a3: (w.am.length:Int)≤w.an[k].aX
   ·rw[dT a3,cT,bnd,cT];exact .inr ⟨_,rfl,λu h=>by cases h⟩
   rw[dF a3,Vc.cF]
   by_cases a4:w.an[k].bW<0
   ·rw[dT a4,cT,bnd,cT];exact .inr ⟨_,rfl,λu h=>by cases h⟩
   rw[dF a4,Vc.cF]
   by_cases a5: (2:Int)<w.an[k].bW
   ·rw[dT a5,cT,bnd,cT];exact .inr ⟨_,rfl,λu h=>by cases h⟩
   rw[dF a5,Vc.cF]
   by_cases a6:w.an[k].aJ<0
   ·rw[dT a6,cT,bnd,cT];exact .inr ⟨_,rfl,λu h=>by cases h⟩
   rw[dF a6,Vc.cF,bnd]
   by_cases a7: (2:Int)<w.an[k].aJ
   ·rw[dT a7,cT];exact .inr ⟨_,rfl,λu h=>by cases h⟩
   rw[dF a7,Vc.cF]
   obtain⟨b,hb,pb⟩:=dn (step:=oL n w (k:Int) w.an[k]) (n:=n) (s0:=(0:Int)) (λq t=>t=(q:Int)∧∀i (hi:i<w.an.length),i<q→¬ (w.an[i].aX=w.an[k].aX∧w.an[i].aJ=w.an[k].aJ))
    (λb=>∀u,b=.inr u→∀i (hi:i<w.an.length),i<k→¬ (w.an[i].aX=w.an[k].aX∧w.an[i].aJ=w.an[k].aJ)) k ⟨rfl,λi _ h=>absurd h (by omega)⟩
    (λq t hq hI=>by
     obtain⟨rfl,hI⟩:=hI
     have hq':q<w.an.length:=by omega
     unfold oL
     rw[dT (by omega),cT,bw hq',bnd]
     have go: ¬ (w.an[q].aX=w.an[k].aX∧w.an[q].aJ=w.an[k].aJ)→∀i (hi:i<w.an.length),i<q+1→¬ (w.an[i].aX=w.an[k].aX∧w.an[i].aJ=w.an[k].aJ):=λh i hi hiq=>by
      by_cases ei:i=q
      ·subst ei;exact h
      exact hI i hi (by omega)
     by_cases e1:w.an[q].aX=w.an[k].aX
     ·rw[dT e1,cT,bnd]
      by_cases e2:w.an[q].aJ=w.an[k].aJ
      ·rw[dT e2,cT];exact .inr ⟨_,rfl,λu h=>by cases h⟩
      rw[dF e2,Vc.cF,bL (by omega) (by omega)]
      exact .inl ⟨_,rfl,by simp,go λh=>e2 h.2⟩
     rw[dF e1,Vc.cF,bL (by omega) (by omega)]
     exact .inl ⟨_,rfl,by simp,go λh=>e1 h.1⟩)
    (λt hI=>by
     obtain⟨rfl,hI⟩:=hI
     unfold oL
     rw[dF (by omega),Vc.cF]
     exact⟨_,rfl,λ_ _=>hI⟩) (by omega)
   rw[hb,bnd]
   cases b with
   |inl u=>exact .inr ⟨_,rfl,λu h=>by cases h⟩
   |inr u=>
    have hne:=pb u rfl
    dsimp only
    rw[bL (by omega) (by omega)]
    refine .inl ⟨_,rfl,by simp,λj hj hjk=>?_,λi j hi hj hij hjk=>?_⟩
    ·by_cases ej:j=k
     ·subst ej;exact⟨a1,by omega,by omega,by omega,by omega,by omega,by omega⟩
     exact hI j hj (by omega)
    by_cases ej:j=k
    ·subst ej;exact hne i hi hij
    exact hU i j hi hj hij (by omega))
  (λt hI=>by
   obtain⟨rfl,hI,hU⟩:=hI
   unfold oJ
   rw[dF (by omega),Vc.cF]
   exact⟨_,rfl,λ_ _=>⟨λj hj=>hI j hj hj,λi j hi hj hij=>hU i j hi hj hij hj⟩⟩) (by omega)
 unfold lO
 by_cases a1:w.co<1
 ·rw[dT a1,cT,bnd,cT];exact⟨_,rfl,λh=>by cases h⟩
 rw[dF a1,Vc.cF]
 by_cases a2: (4:Int)<w.co
 ·rw[dT a2,cT,bnd,cT];exact⟨_,rfl,λh=>by cases h⟩
 rw[dF a2,Vc.cF]
 by_cases a3:w.aJ<0
 ·rw[dT a3,cT,bnd,cT];exact⟨_,rfl,λh=>by cases h⟩
 rw[dF a3,Vc.cF]
 by_cases a4: (3:Int)<w.aJ
 ·rw[dT a4,cT,bnd,cT];exact⟨_,rfl,λh=>by cases h⟩
 rw[dF a4,Vc.cF,hck,bnd,bnd]
 by_cases a5:c=0
 case neg=>rw[dF a5,nF,cT];exact⟨_,rfl,λh=>by cases h⟩
 rw[dT a5,nT,Vc.cF,hb,bnd]
 cases b with
 |inl u=>exact⟨_,rfl,λh=>by cases h⟩
 |inr u=>
  obtain⟨p1,p2⟩:=pb u rfl
  dsimp only
  rw[kept_ref hn w hs.ch,bnd,hR,bnd,hm,bnd]
  refine⟨m,rfl,λe=>⟨by omega,by omega,pck a5,p1,p2,λi hi x hx=>?_⟩⟩
  exact pm e i (by rw[pR.len];exact hi) x ((pR.row i hi x).2 hx)
theorem within1 {n:Nat} {x a b:Int} (h1:a≤x) (h2:x≤b):gM n x a b=some true:=by
 unfold gM
 rw[dT h1,cT,dT h2]
theorem within2 {n:Nat} {x a b:Int} (h1:a≤x) (h2:x≤b):eu n x a b=some true:=by
 unfold eu
 rw[dT h1,cT,dT h2]
theorem key_eq {c p:Int} {key:bj}: ((⟨c,p⟩:bj)=key)↔ (c=key.change∧p=key.phase):=by cases key;simp
theorem AL {n:Nat} (hn:10000000000001<n) (w:bH) (hs:Sml w) (h:Okt w):gg n w=some true:=by
 have ht:=hs.tk
 have hc:=hs.ch
 obtain⟨w1,w2⟩:=h.wd
 obtain⟨p1,p2⟩:=h.ph
 obtain⟨R,hR,pR⟩:=leans_fwd hn w hs
 have hRl:R.length=w.am.length:=by rw[pR.len,jj]
 unfold gg
 rw[within1 w1 w2,bnd,nT,Vc.cF,within2 p1 p2,bnd,nT,Vc.cF,check_own hn w.bI ⟨hs.ow,hs.pe,hs.re⟩ h.ck,bnd,bnd,dT rfl,nT,Vc.cF]
 obtain⟨b,hb,⟨u,rfl⟩⟩:=dn (step:=kw n w) (n:=n) (s0:=((0:Int),([]:List (bj×Bool))))
  (λk t=>t.1=(k:Int)∧∀key:bj,(eS t.2 key).getD false=(w.an.take k).any (isT key.change key.phase))
  (λb=>∃u,b=.inr u) w.an.length ⟨rfl,λkey=>rfl⟩
  (λk t hk hI=>by
   obtain⟨i0,m⟩:=t
   obtain⟨rfl,hI⟩:=hI
   dsimp only at hI
   obtain⟨t1,t2,t3,t4,t5,t6,t7⟩:=h.tk k hk
   have hnone: (w.an.take k).any (isT w.an[k].aX w.an[k].aJ)=false:=by
    rw[List.any_eq_false]
    intro t htk he
    obtain⟨j,hj,rfl⟩:=List.getElem_of_mem htk
    rw[List.length_take] at hj
    have hjl:j<w.an.length:=by omega
    have:=h.un j k hjl hk (by omega)
    rw[List.getElem_take] at he
    unfold isT at he
    rw[Bool.and_eq_true,decide_eq_true_eq,decide_eq_true_eq] at he
    exact this he
   unfold kw
   dsimp only
   rw[dT (by omega),cT,bw hk,bnd,bL (by omega) (by omega),dT t1,nT,Vc.cF,bL (by omega) (by omega),within1 t2 (by omega),bnd,nT,Vc.cF,within2 t4 t5,bnd,nT,Vc.cF,within2 t6 t7,bnd,nT,Vc.cF,hI,bnd]
   dsimp only
   rw[hnone,Vc.cF,bL (by omega) (by omega)]
   refine .inl ⟨_,rfl,by simp,λkey=>?_⟩
   dsimp only
   rw[ws,any_takeT hk,←hI key]
   by_cases ek: (⟨w.an[k].aX,w.an[k].aJ⟩:bj)=key
   ·rw[if_pos ek]
    obtain⟨e1,e2⟩:=key_eq.1 ek
    have:isT key.change key.phase w.an[k]=true:=by unfold isT;rw[dT e1,dT e2];rfl
    rw[this,Bool.or_true];rfl
   rw[if_neg ek]
   have:isT key.change key.phase w.an[k]=false:=by
    cases e:isT key.change key.phase w.an[k] with
    |false=>rfl
    |true=>
     unfold isT at e
     rw[Bool.and_eq_true,decide_eq_true_eq,decide_eq_true_eq] at e
     exact absurd (key_eq.2 e) ek
   rw[this,Bool.or_false])
  (λt hI=>by
   obtain⟨i0,m⟩:=t
   obtain⟨rfl,hI⟩:=hI
   unfold kw
   dsimp only
   rw[dF (by omega),Vc.cF]
   exact⟨_,rfl,_,rfl⟩) (by omega)
 rw[hb,bnd]
 dsimp only
 rw[hR,bnd]
 obtain⟨b,hb,⟨u,rfl⟩⟩:=dn (step:=ky n R) (n:=n) (s0:=(0:Int)) (λk t=>t=(k:Int)) (λb=>∃u,b=.inr u) R.length rfl
  (λk t hk hI=>by
   subst hI
   have hk2:k<(keptL w.am).length:=by rw[jj];omega
   have hsz:=pR.sz k hk2
   have hah:=h.ah k hk2
   unfold ky
   rw[dT (by omega),cT,yQ hk,bnd]
   by_cases e: (0:Int)<(((R.getD k []).length:Nat):Int)
   ·obtain⟨m,hm⟩: ∃m,(R.getD k []).length=m+1:=⟨(R.getD k []).length-1,by omega⟩
    have e1: (((R.getD k []).length:Nat):Int)-1=(m:Int):=by omega
    have hlast:=hah _ ((pR.row k hk2 _).1 (List.getElem_mem (l:=R.getD k []) (n:=m) (by omega)))
    rw[dT e,cT,e1,bL (by omega) (by omega),bw (xs:=R.getD k []) (k:=m) (by omega),bnd,dF (by omega),Vc.cF,bL (by omega) (by omega)]
    exact .inl ⟨_,rfl,by simp⟩
   rw[dF e,Vc.cF,bL (by omega) (by omega)]
   exact .inl ⟨_,rfl,by simp⟩)
  (λt hI=>by
   subst hI
   unfold ky
   rw[dF (by omega),Vc.cF]
   exact⟨_,rfl,_,rfl⟩) (by omega)
 rw[hb,bnd]
variable {n:Nat}
theorem AE {l:Cp} (h:zl l≤2000000):GsOK l∧SmG l:=by
 have h1:=lU l
 have h2: ∀g∈l,dsz (aw g.fV)≤2000000:=λg hg=>by
  have:=dZ hg
  have hq:_∧_:=Sz.p g
  simp only[Sz.f,zz,zl] at*
  omega
 exact⟨⟨by omega,λg hg=>by have:=h2 g hg;omega⟩,by omega,λg hg=>by have:=h2 g hg;omega⟩
def OwOK (o:gK):Prop:=o.bm.length≤2000∧o.bA.length≤60∧GsOK o.bk
theorem greats22 {l:CB} (hn:10000000000001<n) (hz:zl l≤2000000):Tot (jr n l) λb=>b=false→l.length≤100∧∀o∈l,OwOK o:=by
 have hl:=lU l
 unfold jr
 refine Tot.b (Tot.m (R:=λb=>match b with|.inl _=>True|.inr _=>(∀o∈l,OwOK o)∨100<l.length) (Tot.lm l (λs=>s) OwOK (λ_=>True) (by omega) rfl trivial λs h1 _ hm=>?_) λb hb=>?_)
 ·unfold uK
  refine Tot.b (Tot.m (R:=λb=>(b=true→s<l.length)∧(b=false→¬s<l.length∨100<l.length)) (Tot.cd (λh=>Tot.s (by simp;omega)) λh=>Tot.s (by simp;omega)) λb hb=>Tot.c (λh=>?_) λh=>Tot.sb ((hb.2 h).imp (λh=>cu h hm) id))
  have h2:=hb.1 h
  obtain⟨o,ho,hom,hk⟩: ∃o,aq l s=some o∧o∈l∧(OwOK o→∀y∈l.take (s+1).toNat,OwOK y):=Tot.gm (Q:=λt=>t∈l∧(OwOK t→∀y∈l.take (s+1).toNat,OwOK y)) ⟨h1,h2⟩ λx hx ht=>⟨hx,λh=>ht hm h⟩
  have hzo:=dZ hom
  have hq:_∧_:=Sz.p o
  have hg:=AE (l:=o.bk) (by simp only[Sz.f,zz,zl] at*;omega)
  simp only[Sz.f,zz,zl] at hzo hz hl
  refine Tot.b (Tot.ge ho (Tot.cl ⟨hn,hg.1⟩ λ_ _=>Tot.c (λ_=>Tot.sb trivial) λ_=>Tot.b (Tot.ge ho (Tot.cd (λ_=>Tot.sb trivial) λh60=>Tot.b (Tot.ge ho (Tot.b (Tot.ge ho (Tot.i (by omega) (Tot.b (Tot.ge ho (Tot.i (by omega) (Tot.cd (λ_=>Tot.sb trivial) λh2000=>Tot.i (by omega) (Tot.sn ⟨h2,rfl,hk ⟨by omega,by omega,hg.1⟩,trivial⟩)))))))))))))
 cases b with
 |inl _=>exact Tot.s (by simp)
 |inr _=>
  refine Tot.s λh=>?_
  have h:=of_decide_eq_false h
  exact⟨by omega,hb.resolve_right (by omega)⟩
def StOK (s:gH):Prop:=SmS s∧∀o∈s.aR,OwOK o
theorem Great22 {s:gH} (hn:10000000000001<n) (hz:dsz (gd s)≤2000000):Tot (qY n s) λb=>b=false→StOK s:=by
 have hp:_∧_:=Sz.p s
 unfold qY
 refine Tot.b ((greats22 hn (l:=s.aR) (by simp only[Sz.f,zl];omega)).m λb1 h1=>Tot.c (λ_=>Tot.s (by simp)) λe1=>Tot.b ((greats22 hn (l:=s.cJ) (by simp only[Sz.f,zl];omega)).m λb2 h2=>Tot.c (λ_=>Tot.s (by simp)) λe2=>Tot.b ((greats22 hn (l:=s.cM) (by simp only[Sz.f,zl];omega)).m λb3 h3=>Tot.c (λ_=>Tot.s (by simp)) λe3=>?_)))
 refine Tot.cl ⟨hn,(AE (by simp only[Sz.f,zl];omega)).1⟩ λ_ _=>Tot.c (λ_=>Tot.s (by simp)) λ_=>Tot.cl ⟨hn,(AE (by simp only[Sz.f,zl];omega)).1⟩ λ_ _=>Tot.c (λ_=>Tot.s (by simp)) λ_=>Tot.s λ_=>⟨⟨(h1 e1).1,(h2 e2).1,(h3 e3).1⟩,(h1 e1).2⟩
theorem owned23 {s:gH} {k:Bs} (hn:10000000000001<n) (hs:StOK s):Tot (gq n s k) λr=>(r.2=true→r.1∈s.aR)∧OwOK r.1:=by
 have hl:=hs.1.ow
 have h0:OwOK yK:=⟨by decide,by decide,by decide,λg h=>by simp[yK] at h⟩
 unfold gq
 refine Tot.b (Tot.m (R:=λb=>match b with|.inl o=>o∈s.aR|.inr _=>True) (Tot.li (λs=>s.1) (λ_=>True) s.aR.length (by omega) (by simp) λt h1 _=>?_) λb hb=>?_)
 ·unfold ql;exact tgo
 cases b with
 |inl o=>exact Tot.s ⟨λ_=>hb,hs.2 o hb⟩
 |inr _=>exact Tot.s ⟨by simp,h0⟩
theorem put23 {l:Cp} {k p:Bs} {B:Nat} (hn:10000000000001<n) (hl:l.length≤B) (hB:B≤999999999) (hv: ∀g∈l,g.fV.be.length≤2000) (hp:p.length≤2000):Tot (lN n l k p) λr=>r.length≤B+1∧∀g∈r,g.fV.be.length≤2000:=by
 unfold lN
 refine Tot.b (Tot.m (R:=λy=>0≤y∧y≤l.length) (Tot.li (λs=>s) (λs=>s≤l.length) l.length (by omega) (by simp) λs h1 h2=>?_) λy hy=>?_)
 ·unfold yD
  refine Tot.cd (λh3=>Tot.b (Tot.gy ⟨h1,h3⟩ λg _ _=>Tot.c (λ_=>Tot.i (by omega) (Tot.sn ⟨h3,by omega,by omega⟩)) λ_=>Tot.sb (by omega))) λ_=>Tot.sb (by omega)
 refine Tot.n (by omega) (Tot.n (by simp;omega) (Tot.n (by omega) (Tot.n (by simp;omega) (Tot.n (by simp;omega) (Tot.n (by simp;omega) (Tot.s ⟨by simp;omega,λg hg=>?_⟩))))))
 simp only[List.nil_append,List.drop_zero,List.mem_append,List.mem_singleton] at hg
 rcases hg with(h|h)|h
 ·exact hv g (List.mem_of_mem_take h)
 ·rw[h];exact hp
 exact hv g (List.mem_of_mem_drop h)
def ChOK (B:Nat) (l:Cv):Prop:=l.length≤B∧∀c∈l,c.bA.length≤2000000
theorem ChOK.add {B:Nat} {l:Cv} {c:cV} (h:ChOK B l) (hc:c.bA.length≤2000000):ChOK (B+1) (l++[c]):=⟨by have:=h.1;simp;omega,λx hx=>by
 rcases List.mem_append.1 hx with hx|hx
 ·exact h.2 x hx
 rw[List.mem_singleton.1 hx];exact hc⟩
theorem rest23 {s:gH} {l:List Bs} (hn:10000000000001<n) (hs:StOK s) (hl:l.length≤2000000):Tot (uj n s l) (ChOK 100):=by
 have hw:=hs.1.ow
 unfold uj
 refine Tot.b (Tot.m (R:=ChOK s.aR.length) (Tot.li (λs=>s.2) (λt=>t.2≤s.aR.length∧ChOK t.2.toNat t.1) s.aR.length (by omega) ⟨by simp,by simp,by simp,by simp⟩ λt h1 ⟨h2,h3⟩=>?_) λr hr=>Tot.s ⟨by have:=hr.1;omega,hr.2⟩)
 unfold xp
 refine Tot.cd (λh4=>Tot.b (Tot.m (R:=λ_=>True) (Tot.li (λs=>s.2) (λ_=>True) l.length (by omega) (by simp) λu f1 _=>?_) λb _=>Tot.cn (Tot.c (λ_=>?_) λ_=>Tot.b (Tot.gy ⟨h1,h4⟩ λo _ ho=>?_)))) λh4=>Tot.sb ⟨by have:=h3.1;omega,h3.2⟩
 ·unfold xq;exact tgo
 ·exact Tot.i (by omega) (Tot.sn ⟨h4,by dsimp only;omega,by dsimp only;omega,by have:=h3.1;dsimp only;omega,h3.2⟩)
 have:=(hs.2 o ho).2.1
 have h5:=h3.1
 have h6:=h3.add (c:=⟨o.ci,4,o.bB,o.bk,o.bV,-1,true,o.bA⟩) (by dsimp only;omega)
 exact Tot.b (Tot.s (Tot.n (by omega) (Tot.i (by omega) (Tot.sn ⟨h4,by dsimp only;omega,by dsimp only;omega,by have:=h6.1;dsimp only;omega,h6.2⟩))))
variable {n:Nat}
theorem checked23 {f:ey} {gs ids:Cp} {i:Int} (hN:10000000000000000000<n) (hf:FlOK f) (hg:SmG gs) (hi:IdOK ids) (h:0≤i∧i<f.aU.length):Tot (mu n f gs ids i) λr=>GsOK r.1:=by
 have h0:GsOK []:=⟨by simp,by simp⟩
 unfold mu rT
 refine Tot.cl ⟨hN,hf,hg,hi⟩ λr hr=>Tot.cn (Tot.cd (λ_=>Tot.b (Tot.b ((props18 hN hf hg hi).m λu hu=>Tot.s (Tot.cn (Tot.cd (λ_=>?_) λ_=>Tot.s h0))))) λ_=>Tot.s h0)
 exact Tot.b (Tot.gy h λd _ _=>Tot.cl ⟨by omega,hr⟩ λ_ _=>Tot.cn (Tot.cd (λ_=>Tot.cl ⟨by omega,hu⟩ λ_ _=>Tot.s hr) λ_=>Tot.s h0))
theorem long23 {f:ey} {gs ids:Cp} {en:CE} (hN:10000000000000000000<n) (hf:FlOK f) (hg:SmG gs) (hl:ids.length≤3000000) (hv: ∀g∈ids,g.fV.be.length≤2000) (he:en.length=f.aU.length):Tot (ui n f gs ids en) λ_=>True:=by
 have hnl:=hf.2.1
 unfold ui
 refine Tot.b (Tot.m (R:=IdOK) (Tot.li (λs=>s.2) (λs=>s.2≤f.aU.length∧s.1.length≤3000000+s.2∧∀g∈s.1,g.fV.be.length≤2000) f.aU.length (by omega) ⟨by simp,by simp,by dsimp only;omega,hv⟩ λs h1 ⟨h2,h3,h4⟩=>?_) λy hy=>Tot.b ((outputs18 hN hf hg hy).m λr hr=>Tot.b (Tot.m (R:=λ_=>True) (Tot.li (λs=>s) (λ_=>True) r.1.length (by have:=hr.1;omega) (by simp) λs h1 _=>?_) λb _=>by cases b<;>exact Tot.s trivial)))
 ·unfold xn
  refine Tot.cd (λh5=>Tot.b (Tot.gy ⟨h1,h5⟩ λd hd _=>Tot.b ((Id18 (by omega) (by omega) h4).m λu _=>Tot.b (Tot.m (R:=λ_=>True) (Tot.b (Tot.gy (by omega) λb _ _=>Tot.c (λ_=>Tot.s trivial) λ_=>Tot.s trivial)) λ_ _=>Tot.c (λ_=>Tot.b (Tot.ge hd (Tot.b ((put23 (B:=3000000+s.2.toNat) (by omega) (by omega) (by omega) h4 (by simp)).m λz ⟨z1,z2⟩=>Tot.i (by omega) (Tot.sn ⟨h5,by dsimp only;omega,by dsimp only;omega,by dsimp only;omega,z2⟩))))) λ_=>Tot.i (by omega) (Tot.sn ⟨h5,by dsimp only;omega,by dsimp only;omega,by dsimp only;omega,h4⟩))))) λ_=>Tot.sb ⟨by omega,h4⟩
 unfold xo
 have hr1:=hr.1
 exact Tot.cd (λh2=>Tot.b (Tot.gy ⟨h1,h2⟩ λg hge hgm=>Tot.cl ⟨by omega,hr.2 g hgm⟩ λ_ _=>Tot.b (Tot.ge hge (by exact tgo)))) λ_=>Tot.sb trivial
structure PlOK (k:Int) (s:gH) (wd:Int) (w:bH):Prop where
 kd:w.aA=k
 wi:w.co=wd
 od:w.bI=s
 tk:w.an=[]
 ph:w.aJ=0
 fl:FlOK w.ig
 ag:SmG w.bG
 ch:ChOK 2000100 w.am
theorem plan23 {k wd:Int} {s:gH} {t:cI} {x:Bs} {gs:Cp} (hN:10000000000000000000<n) (hs:StOK s) (ht:dsz (ba t)≤2000000) (hg:SmG gs):Tot (uh n k s t x gs wd) λr=>r.2=0→PlOK k s wd r.1∧(0≤k∧k≤2):=by
 have hn:10000000000001<n:=by omega
 have hw:=hs.1.ow
 obtain⟨c,hc,_⟩:=check_ref hn s hs.1
 unfold uh
 refine Tot.b (Tot.m (R:=λb=>b=false→0≤k∧k≤2) (Tot.cd (λ_=>Tot.s (by simp)) λ_=>Tot.cd (λ_=>Tot.s (by simp)) λ_=>Tot.b (Tot.ge hc (Tot.cn (Tot.cd (λ_=>Tot.cd (λ_=>Tot.s (by simp)) λ_=>Tot.s λ_=>by omega) λ_=>Tot.s (by simp))))) λb hb=>Tot.c (λ_=>Tot.s (by simp)) λh=>?_)
 have hk:=hb h
 refine Tot.cd (λh2=>?_) λ_=>Tot.cd (λ_=>Tot.s (by simp)) λ_=>?_
 ·refine Tot.b (Tot.m (R:=ChOK 100) (Tot.li (λs=>s.1) (λu=>u.1≤s.aR.length∧ChOK u.1.toNat u.2) s.aR.length (by omega) ⟨by simp,by simp,by simp,by simp⟩ λu h1 ⟨h2,h3⟩=>?_) λy hy=>Tot.s λ_=>⟨⟨rfl,rfl,rfl,rfl,rfl,zFlOK,⟨by simp,by simp⟩,by have:=hy.1;dsimp only;omega,hy.2⟩,hk⟩)
  unfold xl
  refine Tot.cd (λh4=>Tot.b (Tot.m (R:=ChOK (u.1.toNat+1)) (Tot.b (Tot.gy ⟨h1,h4⟩ λo _ ho=>?_)) λy hy=>Tot.i (by omega) (Tot.sn ⟨h4,by dsimp only;omega,by dsimp only;omega,by have:=hy.1;dsimp only;omega,hy.2⟩))) λh4=>Tot.sb ⟨by have:=h3.1;omega,h3.2⟩
  have:=(hs.2 o ho).2.1
  have h5:=h3.1
  exact Tot.b (Tot.s (Tot.n (by omega) (Tot.s (h3.add (by dsimp only;omega)))))
 refine Tot.cl ⟨hn,ht⟩ λe16 _=>Tot.cn (Tot.cd (λ_=>?_) λh=>Tot.s λh'=>(h h').elim)
 refine Tot.cl ⟨hn,ht⟩ λf hf=>Tot.cn (Tot.cd (λ_=>?_) λh=>Tot.s λh'=>(h h').elim)
 refine Tot.b ((run19 hN hf hg).m λd hd=>Tot.cn (Tot.cd (λh0=>?_) λh=>Tot.s λh'=>(h h').elim))
 obtain⟨hrw,cv,hcv,hcv0⟩:=hd h0
 have hnl:=hf.2.1
 have hdl:=hrw.1
 have hrb:RbOK d.1:=⟨by omega,λr hr=>by have:=(hrw.2 r hr).1;omega⟩
 refine Tot.cl ⟨hn,hrb⟩ λo ho=>Tot.cn (Tot.cd (λ_=>?_) λh=>Tot.s λh'=>(h h').elim)
 rw[hdl] at ho
 have ho1:=ho.1
 refine Tot.b ((enabled17 hn hf hg hcv hcv0).m λen hen=>Tot.b ((names19 hn hnl hrw).m λnm hnm=>?_))
 refine Tot.b (Tot.m (R:=λb=>match b with|.inl y=>y.1≠0|.inr y=>y.1.length≤2000000∧(∀g∈y.1,g.fV.be.length≤2000)∧y.2.1.length≤2000000∧ChOK 2000000 y.2.2) (Tot.li (λu=>u.2.2.1) (λu=>u.2.2.1≤o.1.length∧u.1.length≤u.2.2.1∧(∀g∈u.1,g.fV.be.length≤2000)∧u.2.1.length≤u.2.2.1∧ChOK u.2.2.1.toNat u.2.2.2) o.1.length (by omega) ⟨by simp,by simp,by simp,by simp,by simp,by simp,by simp⟩ λu h1 ⟨h2,h3,h4,h5,h6⟩=>?_) λb hb=>?_)
 ·unfold xm
  refine Tot.cd (λh7=>Tot.b (Tot.gy ⟨h1,h7⟩ λi _ him=>?_)) λ_=>Tot.sb ⟨by dsimp only;omega,h4,by dsimp only;omega,by have:=h6.1;dsimp only;omega,h6.2⟩
  have hi:=ho.2 i him
  have h61:=h6.1
  refine Tot.b (Tot.gy (by omega) λb _ _=>Tot.cn (Tot.c (λ_=>?_) λ_=>Tot.i (by omega) (Tot.sn ⟨h7,by dsimp only;omega,by dsimp only;omega,by dsimp only;omega,h4,by dsimp only;omega,by dsimp only;omega,h6.2⟩)))
  refine Tot.b (Tot.gy hi λnd _ hnd=>Tot.b ((checked23 hN hf hg ⟨by omega,h4⟩ hi).m λp hp=>Tot.cn (Tot.cd (λ_=>Tot.b (Tot.gy (by omega) λrow _ hrow=>Tot.b ((owned23 hn hs).m λw hw=>?_))) λh=>Tot.sb h)))
  have hrl:=hnm.2 row hrow
  refine Tot.b (Tot.m (R:=λj=>match j with|.nx _=>True|.br l=>LpP (λ_=>False) (λb=>match b with|.inl y=>y.1≠0|.inr _=>False) l) (Tot.c (λhw2=>Tot.cd (λ_=>Tot.cl ⟨hn,(hs.2 _ (hw.1 hw2)).2.2,hp⟩ λz _=>Tot.cn (Tot.cd (λ_=>Tot.s trivial) λh=>Tot.mb (Tot.sb h))) λ_=>Tot.s trivial) λ_=>Tot.s trivial) λj hj=>?_)
  cases j with
  |br l=>
   refine⟨l,rfl,?_⟩
   cases l with
   |nx _=>exact hj.elim
   |br b=>
    cases b with
    |inl y=>exact hj
    |inr y=>exact hj.elim
  |nx y4=>
   refine Tot.jn (Tot.b (Tot.m (R:=λ_=>True) tgo λ_ _=>Tot.b (Tot.m (R:=λy=>y.length≤u.2.2.1.toNat+1∧∀g∈y,g.fV.be.length≤2000) (Tot.c (λ_=>Tot.b ((put23 hn (B:=u.2.2.1.toNat) (by omega) (by omega) h4 hw.2.1).m λz hz=>Tot.s hz)) λ_=>Tot.s ⟨by omega,h4⟩) λy6 ⟨hy6,hy6v⟩=>?_)))
   have h8:=h6.add (c:=⟨nd.ci,y4.1,nd.fR.bB,p.1,nd.fR.bV,i,y4.2,row⟩) hrl
   exact Tot.n (by omega) (Tot.n (by omega) (Tot.i (by omega) (Tot.sn ⟨h7,by dsimp only;omega,by dsimp only;omega,by dsimp only;omega,hy6v,by simp;omega,by have:=h8.1;dsimp only;omega,h8.2⟩)))
 cases b with
 |inl y=>exact Tot.s λh=>(hb h).elim
 |inr y=>
  obtain⟨b1,b2,b3,b4⟩:=hb
  refine Tot.b ((outputs18 hN hf hg ⟨by omega,b2⟩).m λq hq=>Tot.cn (Tot.cd (λ_=>?_) λh=>Tot.s λh'=>(h h').elim))
  refine Tot.b ((long23 hN hf hg (by omega) b2 hen.2).m λq hq=>Tot.c (λ_=>Tot.s (by simp)) λ_=>?_)
  refine Tot.b (Tot.m (R:=ChOK 2000100) (Tot.b ((rest23 hn hs b3).m λz hz=>Tot.n (by have:=b4.1;have:=hz.1;omega) (Tot.s ⟨by have:=b4.1;have:=hz.1;simp;omega,λc hc=>?_⟩))) λy9 hy9=>?_)
  ·rcases List.mem_append.1 hc with hc|hc
   ·exact b4.2 c hc
   exact hz.2 c hc
  have hm:MyOK f.1:=by
   obtain⟨c',e,h⟩:=Tt.t (x:=dp n f.1 gs) ⟨hn,hf,hg⟩
   rw[hcv] at e;injection e with e;subst e
   exact(h hcv0).1
  have hm0:=hm.1
  exact Tot.b (Tot.gy (by omega) λsc _ hsc=>Tot.b ((bind17 hn (hf.2.2.1 sc hsc) hg).m λa ha=>Tot.s λ_=>⟨⟨rfl,rfl,rfl,rfl,rfl,hf,ha.sm,hy9⟩,hk⟩))
open Go.Ck
def yF (n:Nat) (d0:CD) (d1:Int) (K1:Int):Option (Lp Int (Sum Unit Unit)):=bif decide (K1<(d0.length:Int)) then(aq d0 K1).bind λX1=>bif decide (X1=d1) then some (.br (.inl ())) else ar (inR .i64 (K1+1))<|some (.nx (K1+1)) else some (.br (.inr ()))
def wE (n:Nat) (d0:CD) (d1:Int):Option Bool:=(av (yF n d0 d1) n (0:Int)).bind λQ1=>(match Q1 with|.inl G1=>some (true)|.inr G2=>some (false))
theorem ref25_has_C (n:Nat) (d0:CD) (d1:Int) (z:Zs):oK ([sX 1 (Dat.int .i64) (z 0) d0]) [] 68 [wX (z 0) d0,.int .i64 d1] (wE n d0 d1) (λr y=>⟨.bool r,[],[]⟩):=
 fn 18 Tryz.func68 (lp [] {} (λK1 _ _=>{L:=[(5,.int .i64 K1)],ks:=[0,1]}) (λx z b=>match x with|.inl G1=>{e:=.ret,L:=[(4,.bool true)]}|.inr G2=>{e:=.exit 0}) (λK1=>br [] (ob (λ_ X2=>br [I 0 1 (tI .i64) X2,K 1 0] (rt []) (nd (λO1=>rt [wr 11 O1])))) (rt [])) (kS (kA λ_=>rt []) (kA λ_=>rt [])))
def zn (n:Nat) (d0:bH) (d1:Int) (d2:Int) (d3:Ba):Option (bH×Ba):=ar (inR .i64 ((d0.an.length:Int)+1))<|ar ((([]:Cx).length+d0.an.length)*112≤140737488355328)<|ar (((([]:Cx)++d0.an).length+1)*112≤140737488355328)<|some ((⟨d0.aA,d0.co,d0.bI,d0.ig,d0.be,d0.bG,d0.am,(([]:Cx)++d0.an)++[(⟨d1,d2,(⟨(d0.an.length:Int)+1,d3.aA,d3.bm,d3.bB,d3.bk⟩:Ba),(0:Int),([]:Bs)⟩:dq)],d0.aJ,d0.cm⟩:bH),(⟨(d0.an.length:Int)+1,d3.aA,d3.bm,d3.bB,d3.bk⟩:Ba))
theorem ref25_Put_C (n:Nat) (d0:bH) (d1:Int) (d2:Int) (d3:Ba) (z:Zs):oK (bn.facts d0 z++uY.facts d3 (sh 10 z)) [] 71 [bn.ag d0 z,.int .i64 d1,.int .i8 d2,uY.ag d3 (sh 10 z)] (zn n d0 d1 d2 d3) (λr y=>⟨.tuple #[bn.ag r.1 y,uY.ag r.2 (sh 10 y)],[],bn.facts r.1 y++uY.facts r.2 (sh 10 y)⟩):=
 fn 30 Tryz.func71 (nd (λO1=>nd (λO2=>nd (λO3=>rt [al 11,al 12,al 13,al 14,O 11,wr 14 O1,S1 12,O 11,nr 15 16 66 cx,ap 15 16 9 17 cx O2,O 12,ao 18,lk 18 19 cx [((⟨d1,d2,(⟨(d0.an.length:Int)+1,d3.aA,d3.bm,d3.bB,d3.bk⟩:Ba),(0:Int),([]:Bs)⟩:dq),[10])],ap (ys:=[(⟨d1,d2,(⟨(d0.an.length:Int)+1,d3.aA,d3.bm,d3.bB,d3.bk⟩:Ba),(0:Int),([]:Bs)⟩:dq)]) 15 17 19 20 cx O3,S1 11,ri 15 20 21,ch [13,14] [],O 11,O 12,Sn 13,Sn 14] {is:=[0,1,2,3,4,5,6,7,8,21,10],rk:=[13,14]}))))
def rc (n:Nat) (d0:bH) (d1:Int):Option (bH×Ba×Int):=(lO n d0).bind λX1=>bif !X1 then some ((⟨(0:Int),(0:Int),je,gG,([]:Bs),([]:Cp),([]:Cv),([]:Cx),(0:Int),(0:Int)⟩:bH),yJ,(2:Int)) else bif !(decide (d0.aJ=0)) then some ((⟨(0:Int),(0:Int),je,gG,([]:Bs),([]:Cp),([]:Cv),([]:Cx),(0:Int),(0:Int)⟩:bH),yJ,(290:Int)) else(ne n d0).bind λX3=>(wE n X3 d1).bind λX5=>bif !X5 then some ((⟨(0:Int),(0:Int),je,gG,([]:Bs),([]:Cp),([]:Cv),([]:Cx),(0:Int),(0:Int)⟩:bH),yJ,(4:Int)) else(aq d0.am d1).bind λX7=>(wC n d0).bind λX9=>(mO n d0.ig d0.bG X9 X7.sq).bind λX11=>bif !(decide (X11.2.2=0)) then some ((⟨(0:Int),(0:Int),je,gG,([]:Bs),([]:Cp),([]:Cv),([]:Cx),(0:Int),(0:Int)⟩:bH),yJ,X11.2.2) else(bif decide (X7.aA=2) then(jq n d0.bI X7.ci).bind λX13=>some ((1:Int),X13.1.bm) else some ((0:Int),([]:Bs)):Option (Int×Bs)).bind λG1=>(zn n d0 d1 (0:Int) (⟨(0:Int),G1.1,G1.2,X7.bB,X11.1⟩:Ba)).bind λX15=>some (X15.1,X15.2,(0:Int))
set_option maxRecDepth 20000 in
theorem ref25_Start_C (n:Nat) (d0:bH) (d1:Int) (z:Zs):oK (bn.facts d0 z) [] 24 [bn.ag d0 z,.int .i64 d1] (rc n d0 d1) (λr y=>⟨.tuple #[bn.ag r.1 y,uY.ag r.2.1 (sh 10 y),.int .i64 r.2.2],[],bn.facts r.1 y++uY.facts r.2.1 (sh 10 y)⟩):=
 fn 84 Tryz.func24 (ob (λ_ X2=>br [bx 10,al 11,al 12,K 10 0,C (rb n d0) X2 [0,1,2,3,4,5,6,7,8,9] [] 13] (rt [Sn 11,Sn 12,nf 13 6 aK,nf 14 6 aK,nf 15 6 aK,nf 16 8 aj,nf 17 8 aj,nf 18 7 aT,nf 19 11 aS,nf 20 8 aj,nf 21 8 bi,nf 22 9 bF,nf 23 8 aj] {is:=[13,14,15,16,17,18,19,20,21,22,23],rk:=[11,12,0]}) (br [K 10 16] (rt [Sn 11,Sn 12,nf 13 6 aK,nf 14 6 aK,nf 15 6 aK,nf 16 8 aj,nf 17 8 aj,nf 18 7 aT,nf 19 11 aS,nf 20 8 aj,nf 21 8 bi,nf 22 9 bF,nf 23 8 aj] {is:=[13,14,15,16,17,18,19,20,21,22,23],rk:=[11,12,0]}) (ob (λX3 X4=>ob (λ_ X6=>br [K 10 0,C (xr n d0) X4 [0,1,2,3,4,5,6,7,8,9] [] 13,CL (ref25_has_C n X3 d1) X6 [14] [(13,13,14)]] (rt [Sn 11,Sn 12,nf 15 6 aK,nf 16 6 aK,nf 17 6 aK,nf 18 8 aj,nf 19 8 aj,nf 20 7 aT,nf 21 11 aS,nf 22 8 aj,nf 23 8 bi,nf 24 9 bF,nf 25 8 aj] {is:=[15,16,17,18,19,20,21,22,23,24,25],rk:=[11,12,0]}) (ob (λX7 X8=>ob (λX9 X10=>ob (λX11 X12=>br [K 10 14,I 8 15 dk X8,K 15 0,al 18,Sn 18,K 10 10,K 10 13,K 10 0,th (C (ref23_Ids_C n d0) X10 [0,1,2,3,4,5,6,7,8,9] [] 19) (ri 19 19 20),O 18,C (xh n d0.ig d0.bG X9 X7.sq) X12 [5,6,7,20] [] 21] (rt [Sn 11,Sn 12,nf 22 6 aK,nf 23 6 aK,nf 24 6 aK,nf 25 8 aj,nf 26 8 aj,nf 27 7 aT,nf 28 11 aS,nf 29 8 aj,nf 30 8 bi,nf 31 9 bF,nf 32 8 aj] {is:=[22,23,24,25,26,27,28,29,30,31,32],rk:=[11,12,0]}) (jn .no [O 18,al 22,ri 21 21 23,Sn 22,O 18] (λG1 _ _=>{ks:=[1,2,4,5,11],m:=[(22,1,.int .i8 G1.1),(22,2,S G1.2)]}) (br [] (ob (λ_ X14=>rt [S1 22,K 10 2,O 18,C (we n d0.bI X7.ci) X14 [0,1,2,3,4] [] 24,al 26,Sn 26,O 26,S1 22])) (rt [])) (kA λG1=>ob (λ_ X16=>rt [K 10 0,O 22,C (ref25_Put_C n d0 d1 (0:Int) (⟨(0:Int),G1.1,G1.2,X7.bB,X11.1⟩:Ba)) X16 [0,1,2,3,4,5,6,7,8,9,23] [] 27,al 38,al 39,Sn 38,Sn 39,ch [11,12] [],O 38,O 39,Sn 11,Sn 12] {is:=[27,28,29,30,31,32,33,34,35,36,37],rk:=[11,12,0]})))))))))))))
open Go.Ck
def wT (n:Nat) (K1:Int×bH×bH):Option (Lp (Int×bH×bH) (Sum (Bool×bH×bH) (bH×bH))):=bif decide (K1.1<40) then(uk n K1.2.2).bind λX7=>bif !(decide (X7.aJ=0)) then some (.br (.inl ((decide (X7.aJ=2)),X7,X7))) else(ne n X7).bind λX9=>bif decide ((X9.length:Int)=0) then some (.br (.inl ((false),X7,X7))) else((aq X9 (0:Int)).bind λX11=>(rc n X7 X11).bind λX13=>some (X13.1,X13.2.1,X13.2.2):Option (bH×Ba×Int)).bind λG2=>bif !(decide (G2.2.2=0)) then some (.br (.inl ((false),X7,X7))) else ar ((10:Int)≠0)<|ar (inR .i64 (K1.1.tdiv (10:Int)))<|ar (inR .i64 ((48:Int)+ (K1.1.tdiv (10:Int))))<|ar ((10:Int)≠0)<|ar (inR .i64 ((48:Int)+ (K1.1.tmod (10:Int))))<|ar (0≤(IntKind.wrap .u8 ((48:Int)+ (K1.1.tdiv (10:Int))))∧(IntKind.wrap .u8 ((48:Int)+ (K1.1.tdiv (10:Int))))<256)<|ar (0≤(IntKind.wrap .u8 ((48:Int)+ (K1.1.tmod (10:Int))))∧(IntKind.wrap .u8 ((48:Int)+ (K1.1.tmod (10:Int))))<256)<|ar ([112,57].length+ [UInt8.ofNat (IntKind.wrap .u8 ((48:Int)+ (K1.1.tdiv (10:Int)))).toNat,UInt8.ofNat (IntKind.wrap .u8 ((48:Int)+ (K1.1.tmod (10:Int)))).toNat].length≤9223372036854775807)<|(wD n G2.1 G2.2.1.gX (⟨(true),(true),[112,57]++[UInt8.ofNat (IntKind.wrap .u8 ((48:Int)+ (K1.1.tdiv (10:Int)))).toNat,UInt8.ofNat (IntKind.wrap .u8 ((48:Int)+ (K1.1.tmod (10:Int)))).toNat]⟩:TE0)).bind λX15=>bif !(decide (X15.2=0)) then some (.br (.inl ((false),X7,X7))) else ar (inR .i64 (K1.1+1))<|some (.nx (K1.1+1,K1.2.1,X15.1)) else some (.br (.inr (K1.2.2,K1.2.1)))
def tc (n:Nat) (d0:Int) (d1:gH) (d2:cI) (d3:Cp) (d4:Int):Option (bH×Bool):=((qL n d2 d3).bind λX1=>bif X1 then some (true) else(qY n d1).bind λX3=>some (X3):Option Bool).bind λG1=>bif G1 then some ((⟨(0:Int),(0:Int),je,gG,([]:Bs),([]:Cp),([]:Cv),([]:Cx),(0:Int),(0:Int)⟩:bH),(false)) else(uh n d0 d1 d2 ([]:Bs) d3 d4).bind λX5=>bif !(decide (X5.2=0)) then some ((⟨(0:Int),(0:Int),je,gG,([]:Bs),([]:Cp),([]:Cv),([]:Cx),(0:Int),(0:Int)⟩:bH),(false)) else(av (wT n) n ((0:Int),(⟨(0:Int),(0:Int),je,gG,([]:Bs),([]:Cp),([]:Cv),([]:Cx),(0:Int),(0:Int)⟩:bH),X5.1)).bind λQ5=>(match Q5 with|.inl G3=>some (G3.2.2,(G3.1))|.inr G4=>some (G4.1,(false)))
set_option maxRecDepth 20000 in
theorem law27_work_C (n:Nat) (d0:Int) (d1:gH) (d2:cI) (d3:Cp) (d4:Int) (z:Zs):oK (ez.facts d1 z++bq.facts d2 (sh 5 z)++[sX 8 aj (z 9) d3]) [] 6 [.int .i8 d0,ez.ag d1 z,bq.ag d2 (sh 5 z),wX (z 9) d3,.int .i64 d4] (tc n d0 d1 d2 d3 d4) (λr y=>⟨.tuple #[bn.ag r.1 y,.bool r.2],[],bn.facts r.1 y⟩):=
 fn 95 Tryz.func6 (jn (.reg 1) [bx 10,bx 11,al 12] (λG1 _ _=>{L:=[(26,.bool G1)],ks:=[0,3,4,6,7,10]}) (ob (λ_ X2=>bs [K 11 0,C (ref17_Great_C n d2 d3) X2 [5,6,7,8,9] [] 13] 23 (rt []) (ob (λ_ X4=>rt [K 10 0,C (ref22_Great_C n d1) X4 [0,1,2,3,4] [] 13])))) (kA λ_=>br [] (rt [Sn 12,nf 13 6 aK,nf 14 6 aK,nf 15 6 aK,nf 16 8 aj,nf 17 8 aj,nf 18 7 aT,nf 19 11 aS,nf 20 8 aj,nf 21 8 bi,nf 22 9 bF] {is:=[13,14,15,16,17,18,19,20,21,22],rk:=[12,0]}) (ob (λ_ X6=>br [K 10 0,K 11 0,C (ref23_Plan_C n d0 d1 d2 ([]:Bs) d3 d4) X6 [0,1,2,3,4,5,6,7,8,9] [] 13,al 23,Sn 23] (rt [Sn 12,nf 24 6 aK,nf 25 6 aK,nf 26 6 aK,nf 27 8 aj,nf 28 8 aj,nf 29 7 aT,nf 30 11 aS,nf 31 8 aj,nf 32 8 bi,nf 33 9 bF] {is:=[24,25,26,27,28,29,30,31,32,33],rk:=[12,0]}) (lp [nf 24 6 aK,nf 25 6 aK,nf 26 6 aK,nf 27 8 aj,nf 28 8 aj,nf 29 7 aT,nf 30 11 aS,nf 31 8 aj,nf 32 8 bi,nf 33 9 bF] {is:=[24,25,26,27,28,29,30,31,32,33,13,14,15,16,17,18,19,20,21,22]} (λK1 z _=>{L:=[(14,.int .i64 K1.1)],ks:=[10,12],o:=[(12,.cells (bn.cells K1.2.1 z).toArray 41 (0,0)),(23,.cells (bn.cells K1.2.2 (sh 10 z)).toArray 41 (0,0))],F:=nums 34 (bn.facts K1.2.1 z)++nums 44 (bn.facts K1.2.2 (sh 10 z))}) (λx z b=>match x with|.inl G3=>{e:=.ret,L:=[(11,.bool G3.1)],ks:=[10],o:=[(23,.cells (bn.cells G3.2.1 z).toArray 41 (0,0)),(12,.cells (bn.cells G3.2.2 (sh 10 z)).toArray 41 (0,0))],F:=nums 106 (bn.facts G3.2.1 z)++nums 116 (bn.facts G3.2.2 (sh 10 z))}|.inr G4=>{e:=.exit 0,ks:=[10,12],o:=[(23,.cells (bn.cells G4.1 z).toArray 41 (0,0)),(12,.cells (bn.cells G4.2 (sh 10 z)).toArray 41 (0,0))],F:=nums 106 (bn.facts G4.1 z)++nums 116 (bn.facts G4.2 (sh 10 z))}) (λK1=>br [] (ob (λX7 X8=>br [O 23,C (ref25_Next_C n K1.2.2) X8 [44,45,46,47,48,49,50,51,52,53] [] 54,Sn 23,O 23] (rt [ch [12] [],O 23,O 23,Sn 12] {is:=[54,55,56,57,58,59,60,61,62,63,54,55,56,57,58,59,60,61,62,63]}) (ob (λ_ X10=>br [O 23,C (xr n X7) X10 [54,55,56,57,58,59,60,61,62,63] [] 64] (rt [O 23,Sn 12] {is:=[54,55,56,57,58,59,60,61,62,63,54,55,56,57,58,59,60,61,62,63]}) (jn (.reg 15) [] (λG2 z _=>{L:=[(16,.pointer (some (z 0).ad)),(17,.pointer (some (z 11).ad)),(18,.int .i64 G2.2.2)],ks:=[10,12,14],F:=[(80,.kn (z 0).ad (bn.cells G2.1 (sh 1 z)))]++nums 81 (bn.facts G2.1 (sh 1 z))++[(91,.kn (z 11).ad (uY.cells G2.2.1 (sh 12 z)))]++nums 92 (uY.facts G2.2.1 (sh 12 z))}) (ob (λX11 X12=>ob (λ_ X14=>rt [Re 64 64 65 (tI .i64) X12,O 23,X 66,Rd 64 65 0,C (ref25_Start_C n X7 X11) X14 [54,55,56,57,58,59,60,61,62,63] [] 67,al 78,al 79,Sn 78,Sn 79,fz 78 80,fz 79 81] {is:=[80,67,68,69,70,71,72,73,74,75,76,81,77]}))) (kA λG2=>br [] (rt [O 23,Sn 12] {is:=[54,55,56,57,58,59,60,61,62,63,54,55,56,57,58,59,60,61,62,63]}) (nd (λO1=>nd (λO2=>nd (λO3=>nd (λO4=>nd (λO5=>nd (λO6=>nd (λO7=>nd (λO8=>ob (λ_ X16=>br [K 80 0,K 91 0,quo O1 O2,wr 77 O3,rem O4,wr 81 O5,ao 93,cw 93 0 (congrArg (Value.int .u8) (uq O6)),cw 93 1 (congrArg (Value.int .u8) (uq O7)),lr 93 94 tU [(UInt8.ofNat (IntKind.wrap .u8 ((48:Int)+ (K1.1.tdiv (10:Int)))).toNat,[]),(UInt8.ofNat (IntKind.wrap .u8 ((48:Int)+ (K1.1.tmod (10:Int)))).toNat,[])],sW 93 94 [UInt8.ofNat (IntKind.wrap .u8 ((48:Int)+ (K1.1.tdiv (10:Int)))).toNat,UInt8.ofNat (IntKind.wrap .u8 ((48:Int)+ (K1.1.tmod (10:Int)))).toNat],cat (l:=[112,57]) (m:=[UInt8.ofNat (IntKind.wrap .u8 ((48:Int)+ (K1.1.tdiv (10:Int)))).toNat,UInt8.ofNat (IntKind.wrap .u8 ((48:Int)+ (K1.1.tmod (10:Int)))).toNat]) O8,C (ref25_End_C n G2.1 G2.2.1.gX (⟨(true),(true),[112,57]++[UInt8.ofNat (IntKind.wrap .u8 ((48:Int)+ (K1.1.tdiv (10:Int)))).toNat,UInt8.ofNat (IntKind.wrap .u8 ((48:Int)+ (K1.1.tmod (10:Int)))).toNat]⟩:TE0)) X16 [81,82,83,84,85,86,87,88,89,90] [] 95,al 105,Sn 105] (rt [O 23,Sn 12] {is:=[54,55,56,57,58,59,60,61,62,63,54,55,56,57,58,59,60,61,62,63]}) (nd (λO9=>rt [O 105,Sn 23,wr 43 O9] {is:=[34,35,36,37,38,39,40,41,42,43,95,96,97,98,99,100,101,102,103,104]})))))))))))))))))) (rt [] {is:=[44,45,46,47,48,49,50,51,52,53,34,35,36,37,38,39,40,41,42,43]})) (kS (kA λ_=>rt [] {is:=[116,117,118,119,120,121,122,123,124,125],rk:=[12,0]}) (kA λ_=>rt [O 23,Sn 12] {is:=[106,107,108,109,110,111,112,113,114,115],rk:=[12,0]})))))))
variable {n:Nat}
instance {l:List Int} {x:Int}:Tt (jc n l x) (10000000000001<n∧l.length≤3000000) λr=>0≤r∧r≤l.length:=⟨λ ⟨hn,hl⟩=>by
 unfold jc
 refine Tot.b (Tot.m (R:=λr=>0≤r∧r≤l.length) (Tot.li (λs=>s.2) (λs=>s.2≤l.length∧0≤s.1∧s.1≤s.2) l.length (by omega) (by simp) λs h1 h2=>?_) λr hr=>Tot.s hr)
 unfold wa;exact tgo⟩
instance {l:List Int}:Tt (ue n l) (10000000000001<n∧l.length≤3000000) λ_=>True:=⟨λ ⟨hn,hl⟩=>by unfold ue;exact tgo⟩
structure WkOK (B:Nat) (w:bH):Prop where
 fl:FlOK w.ig
 ag:SmG w.bG
 ch:ChOK 2000100 w.am
 od:StOK w.bI
 tl:w.an.length≤B
 tp: ∀t∈w.an,t.bm.length≤2000∧t.aJ=0
theorem WkOK.sml {B:Nat} {w:bH} (h:WkOK B w) (hB:B≤100):Sml w:=⟨by have:=h.ch.1;omega,by have:=h.tl;omega,λc hc=>by have:=h.ch.2 c hc;omega,h.od.1.ow,h.od.1.pe,h.od.1.re⟩
theorem flight25 {w:bH} (hn:10000000000001<n) (hl:w.an.length≤10000000):Tot (kV n w) λr=>r.length≤w.an.length∧(r.length=0→∀t∈w.an,t.bW≠0):=by
 unfold kV
 refine Tot.b (Tot.m (R:=λr=>r.length≤w.an.length∧(r.length=0→∀t∈w.an,t.bW≠0)) (Tot.li (λs=>s.2) (λs=>s.2≤w.an.length∧s.1.length≤s.2∧(s.1.length=0→∀t∈w.an.take s.2.toNat,t.bW≠0)) w.an.length (by omega) ⟨by simp,by simp,by simp,by simp⟩ λs h1 ⟨h2,h3,h4⟩=>?_) λr hr=>Tot.s hr)
 unfold uM
 refine Tot.cd (λh5=>Tot.b (Tot.gy ⟨h1,h5⟩ λt ht _=>Tot.cd (λ_=>Tot.b (Tot.ge ht (Tot.n (by omega) (Tot.i (by omega) (Tot.sn ⟨h5,by dsimp only;omega,by dsimp only;omega,by simp;omega,λh=>by simp at h⟩))))) λh6=>Tot.i (by omega) (Tot.sn ⟨h5,by dsimp only;omega,by dsimp only;omega,by dsimp only;omega,λh x hx=>?_⟩))) λh5=>Tot.sb ⟨by omega,λh=>cu h5 (h4 h)⟩
 have e: (s.2+1).toNat=s.2.toNat+1:=by omega
 rw[e,tk1 ht] at hx
 rcases List.mem_append.1 hx with hx|hx
 ·exact h4 h x hx
 rw[List.mem_singleton.1 hx];exact h6
theorem states25 {w:bH} (hn:10000000000001<n) (hs:Sml w):Tot (kW n w) λr=>r.length≤w.am.length:=by
 obtain⟨m,hm,_⟩:=AM hn w hs
 have hc:=hs.ch
 unfold kW
 refine Tot.b (Tot.ge hm (Tot.cn (Tot.c (λ_=>Tot.b (Tot.m (R:=λr=>r.length≤w.am.length) (Tot.li (λs=>s.2) (λs=>s.2≤w.am.length∧s.1.length≤s.2) w.am.length (by omega) (by simp) λs h1 ⟨h2,h3⟩=>?_) λr hr=>Tot.s hr)) λ_=>Tot.s (by simp))))
 unfold uN
 refine Tot.cd (λh4=>Tot.b (Tot.gy ⟨h1,h4⟩ λc _ _=>Tot.b (Tot.m (R:=λ_=>True) tgo λ_ _=>Tot.b (Tot.m (R:=λ_=>True) (Tot.c (λ_=>Tot.b ((task_ref hn w hs.tk s.2 0).m λt _=>Tot.c (λ_=>?_) λ_=>Tot.s trivial)) λ_=>Tot.s trivial) λ_ _=>Tot.n (by omega) (Tot.i (by omega) (Tot.sn ⟨h4,by dsimp only;omega,by dsimp only;omega,by simp;omega⟩)))))) λ_=>Tot.sb (by omega)
 unfold ref25_Of;exact tgo
theorem next25 {B:Nat} {w:bH} (hn:10000000000001<n) (hw:WkOK B w) (hB:B≤100) (h0:w.aJ=0):Tot (uk n w) λr=>r=w∨r=⟨w.aA,w.co,w.bI,w.ig,w.be,w.bG,w.am,w.an,1,w.cm⟩∨(r=⟨w.aA,w.co,w.bI,w.ig,w.be,w.bG,w.am,w.an,2,w.cm⟩∧Okt w∧∀t∈w.an,t.bW≠0):=by
 have hs:=hw.sml hB
 obtain⟨m,hm,hm'⟩:=AM hn w hs
 have hc:=hs.ch
 unfold uk
 refine Tot.b (Tot.m (R:=λb=>b=false→Okt w∧∀t∈w.an,t.bW≠0) (Tot.b (Tot.ge hm (Tot.cn (Tot.c (λh=>Tot.cn (Tot.cd (λ_=>Tot.b ((flight25 hn hs.tk).m λr hr=>Tot.s λh'=>⟨hm' h,hr.2 (by have:=of_decide_eq_false h';omega)⟩)) λ_=>Tot.s (by simp))) λ_=>Tot.s (by simp))))) λb hb=>Tot.c (λ_=>Tot.s (.inl rfl)) λh=>?_)
 refine Tot.b ((states25 hn hs).m λst hst=>Tot.cl ⟨hn,by omega⟩ λ_ _=>Tot.cd (λ_=>Tot.s (.inr (.inl rfl))) λ_=>Tot.cl ⟨hn,by omega⟩ λ_ _=>Tot.c (λ_=>Tot.s (.inr (.inr ⟨rfl,hb h⟩))) λ_=>Tot.s (.inl rfl))
theorem may21 {R:List CD} {st:CD} (hn:10000000000001<n) (hR:R.length≤3000000) (hr: ∀r∈R,r.length≤3000000):Tot (wB n R st) λb=>b=true→R.length=st.length∧∀r∈R,∀i∈r,0≤i∧i<R.length:=by
 unfold wB
 refine Tot.cn (Tot.cd (λhl=>?_) λ_=>Tot.s (by simp))
 refine Tot.b (Tot.m (R:=λb=>match b with|.inl _=>True|.inr _=>∀r∈R,∀i∈r,0≤i∧i<R.length) (Tot.lm R (λs=>s) (λr=>∀i∈r,0≤i∧i<R.length) (λ_=>True) (by omega) rfl trivial λs g1 _ hm=>?_) λb hb=>?_)
 ·unfold yy
  refine Tot.cd (λg2=>?_) λg2=>Tot.sb (cu g2 hm)
  obtain⟨r,hre,hrm,ht⟩: ∃r,aq R s=some r∧r∈R∧((∀i∈r,0≤i∧i<R.length)→∀y∈R.take (s+1).toNat,∀i∈y,0≤i∧i<R.length):=Tot.gm (Q:=λr=>r∈R∧((∀i∈r,0≤i∧i<R.length)→∀y∈R.take (s+1).toNat,∀i∈y,0≤i∧i<R.length)) ⟨g1,g2⟩ λx hx ht=>⟨hx,λh=>ht hm h⟩
  have hrl:=hr r hrm
  refine Tot.b (Tot.m (R:=λ_=>True) (Tot.b (Tot.gy (by omega) λx hx _=>Tot.cd (λ_=>Tot.s trivial) λ_=>Tot.b (Tot.ge hx (Tot.s trivial)))) λ_ _=>Tot.c (λ_=>Tot.sb trivial) λ_=>Tot.b (Tot.m (R:=λb=>match b with|.inl _=>True|.inr _=>∀i∈r,0≤i∧i<R.length) (Tot.lm r (λs=>s) (λi=>0≤i∧i<R.length) (λ_=>True) (by omega) rfl trivial λt f1 _ fm=>?_) λb hb=>?_))
  ·unfold yz
   refine Tot.b (Tot.ge hre (Tot.cd (λf2=>Tot.b (Tot.ge hre ?_)) λf2=>Tot.sb (cu f2 fm)))
   obtain⟨i,hi,hit⟩: ∃i,aq r t=some i∧(0≤i∧i<R.length→∀y:Int,y∈r.take (t+1).toNat→0≤y∧y<R.length):=Tot.gm (Q:=λi:Int=>0≤i∧i<R.length→∀y:Int,y∈r.take (t+1).toNat→0≤y∧y<R.length) ⟨f1,f2⟩ λx hx ht h=>ht fm h
   exact Tot.b (Tot.ge hi (Tot.cd (λ_=>Tot.sb trivial) λq1=>Tot.b (Tot.ge hre (Tot.b (Tot.ge hi (Tot.cd (λ_=>Tot.sb trivial) λq2=>Tot.i (by omega) (Tot.sn ⟨f2,rfl,hit (by omega),trivial⟩)))))))
  cases b with
  |inl _=>exact Tot.sb trivial
  |inr _=>exact Tot.i (by omega) (Tot.sn ⟨g2,rfl,ht hb,trivial⟩)
 cases b with
 |inl _=>exact Tot.s (by simp)
 |inr _=>exact Tot.s λ_=>⟨by omega,hb⟩
theorem ready21 {R:List CD} {st:CD} (hn:10000000000001<n) (hR:R.length≤3000000) (hr: ∀r∈R,r.length≤3000000):Tot (qW n R st false) λr=>r.1.length≤R.length∧∀i∈r.1,0≤i∧i<R.length:=by
 unfold qW
 refine Tot.b ((may21 hn hR hr).m λb hb=>Tot.cn (Tot.c (λh=>?_) λ_=>Tot.s (by simp)))
 obtain⟨hl,hin⟩:=hb h
 unfold zm
 refine Tot.b (Tot.s (Tot.b (Tot.m (R:=λr=>r.length≤R.length∧∀i∈r,0≤i∧i<R.length) (Tot.li (λs=>s.2) (λs=>s.2≤R.length∧s.1.length≤s.2∧∀i∈s.1,0≤i∧i<R.length) R.length (by omega) (by simp) λs h1 ⟨h2,h3,h4⟩=>?_) λr hr=>Tot.s hr)))
 unfold wb
 refine Tot.cd (λh5=>?_) λ_=>Tot.sb ⟨by omega,h4⟩
 obtain⟨r,hre,hrm⟩: ∃r,aq R s.2=some r∧r∈R:=Tot.gy (Q:=λx=>x∈R) ⟨h1,h5⟩ λ_ _ h=>h
 have hrl:=hr r hrm
 refine Tot.b (Tot.gy (by omega) λx _ _=>Tot.b (Tot.m (R:=λ_=>True) (Tot.li (λs=>s.2) (λ_=>True) r.length (by omega) (by simp) λt f1 _=>?_) λb _=>Tot.c (λ_=>Tot.n (by omega) (Tot.i (by omega) (Tot.sn ⟨h5,by dsimp only;omega,by dsimp only;omega,by simp;omega,λi hi=>?_⟩))) λ_=>Tot.i (by omega) (Tot.sn ⟨h5,by dsimp only;omega,by dsimp only;omega,by dsimp only;omega,h4⟩)))
 ·unfold wc
  refine Tot.b (Tot.ge hre (Tot.cd (λf2=>Tot.b (Tot.ge hre (Tot.b (Tot.gy ⟨f1,f2⟩ λi _ hi=>?_)))) λ_=>Tot.sb trivial))
  have:=hin r hrm i hi
  exact Tot.b (Tot.gy (by omega) λy _ _=>by exact tgo)
 rcases List.mem_append.1 hi with hi|hi
 ·exact h4 i hi
 rw[List.mem_singleton.1 hi];exact⟨h1,h5⟩
theorem ready25 {w:bH} (hn:10000000000001<n) (hs:Sml w):Tot (ne n w) λr=>r.length≤w.am.length∧∀i∈r,0≤i∧i<w.am.length:=by
 obtain⟨R,hR,hL⟩:=leans25 hn w hs
 have hc:=hs.ch
 have hl:R.length=w.am.length:=by rw[hL.len,jj]
 unfold ne
 refine Tot.b ((states25 hn hs).m λst hst=>Tot.b (Tot.m (R:=λ_=>True) (Tot.cn (Tot.cd (λ_=>Tot.b ((flight25 hn hs.tk).m λr hr=>Tot.cd (λ_=>Tot.s trivial) λ_=>Tot.cl ⟨hn,by omega⟩ λ_ _=>Tot.s trivial)) λ_=>Tot.s trivial)) λ_ _=>Tot.c (λ_=>Tot.s (by simp)) λ_=>Tot.b (Tot.ge hR ?_)))
 refine Tot.b ((ready21 hn (by omega) (λr hr=>?_)).m λu hu=>Tot.s (by rw[hl] at hu;exact hu))
 obtain⟨i,hi,e⟩:=List.getElem_of_mem hr
 have:=hL.sz i (by rw[←hL.len];exact hi)
 rw[List.getD_eq_getElem?_getD,List.getElem?_eq_getElem hi] at this
 rw[←e];simpa using this
theorem ids23 {B:Nat} {w:bH} (hn:10000000000001<n) (hw:WkOK B w) (hB:B≤100):Tot (wC n w) IdOK:=by
 have hc:=hw.ch.1
 have ht:=hw.tl
 unfold wC
 refine Tot.b (Tot.m (R:=IdOK) (Tot.li (λs=>s.2) (λs=>s.2≤w.am.length∧s.1.length≤101*s.2∧∀g∈s.1,g.fV.be.length≤2000) w.am.length (by omega) (by simp) λs h1 ⟨h2,h3,h4⟩=>?_) λr hr=>Tot.s hr)
 unfold yB
 refine Tot.cd (λh5=>Tot.b (Tot.gy ⟨h1,h5⟩ λc _ _=>Tot.b (Tot.m (R:=λ_=>True) tgo λ_ _=>Tot.c (λ_=>?_) λ_=>Tot.b (Tot.m (R:=λ_=>True) tgo λ_ _=>Tot.c (λ_=>?_) λ_=>Tot.i (by omega) (Tot.sn ⟨h5,by dsimp only;omega,by dsimp only;omega,by dsimp only;omega,h4⟩))))) λ_=>Tot.sb ⟨by omega,h4⟩
 ·exact Tot.b ((owned23 hn hw.od).m λo ho=>Tot.b ((put23 hn (B:=101*s.2.toNat) (by omega) (by omega) h4 ho.2.1).m λz ⟨z1,z2⟩=>Tot.i (by omega) (Tot.sn ⟨h5,by dsimp only;omega,by dsimp only;omega,by dsimp only;omega,z2⟩)))
 refine Tot.b (Tot.m (R:=λr=>r.length≤101*s.2+100∧∀g∈r,g.fV.be.length≤2000) (Tot.li (λt=>t.2) (λt=>t.2≤w.an.length∧t.1.length≤101*s.2+t.2∧∀g∈t.1,g.fV.be.length≤2000) w.an.length (by omega) ⟨by simp,by simp,by dsimp only;omega,h4⟩ λt f1 ⟨f2,f3,f4⟩=>?_) λr ⟨r1,r2⟩=>Tot.i (by omega) (Tot.sn ⟨h5,by dsimp only;omega,by dsimp only;omega,by dsimp only;omega,r2⟩))
 unfold yC
 refine Tot.cd (λf5=>Tot.b (Tot.gy ⟨f1,f5⟩ λk _ hk=>Tot.b (Tot.m (R:=λ_=>True) tgo λ_ _=>Tot.c (λ_=>Tot.b ((put23 hn (B:=101*s.2.toNat+t.2.toNat) (by omega) (by omega) f4 (hw.tp k hk).1).m λz ⟨z1,z2⟩=>Tot.i (by omega) (Tot.sn ⟨f5,by dsimp only;omega,by dsimp only;omega,by dsimp only;omega,z2⟩))) λ_=>Tot.i (by omega) (Tot.sn ⟨f5,by dsimp only;omega,by dsimp only;omega,by dsimp only;omega,f4⟩)))) λ_=>Tot.sb ⟨by omega,f4⟩
instance {l:List Int} {x:Int}:Tt (wE n l x) (10000000000001<n∧l.length≤10000000000000) λb=>b=true→x∈l:=⟨λ ⟨hn,hl⟩=>by
 unfold wE
 refine Tot.b (Tot.m (R:=λb=>match b with|.inl _=>x∈l|.inr _=>True) (Tot.li (λs=>s) (λ_=>True) l.length (by omega) (by simp) λs h1 _=>?_) λb hb=>?_)
 · unfold yF
   exact Tot.cd (λh3=>Tot.b (Tot.gy ⟨h1,h3⟩ λy _ hy=>Tot.cd (λh=>Tot.sb (h▸hy)) λ_=>Tot.i (by omega) (Tot.sn ⟨h3,by omega,trivial⟩))) λ_=>Tot.sb trivial
 · cases b with
   |inl _=>exact Tot.s λ_=>hb
   |inr _=>exact Tot.s (by simp)⟩
theorem own22 {s:gH} {k:Bs} (hn:10000000000001<n) (hs:s.aR.length≤100):Tot (jq n s k) λr=>(r.2=true→r.1∈s.aR∧r.1.ci=k)∧(r.2=false→r.1=yK∧∀o∈s.aR,o.ci≠k):=by
 unfold jq
 refine Tot.b (Tot.m (R:=λb=>match b with|.inl o=>o∈s.aR∧o.ci=k|.inr _=>∀o∈s.aR,o.ci≠k) (Tot.lm s.aR (λs=>s.1) (λo=>o.ci≠k) (λ_=>True) (by omega) rfl trivial (Q:=λb:Sum gK gK=>match b with|.inl o=>o∈s.aR∧o.ci=k|.inr _=>∀o∈s.aR,o.ci≠k) λt h1 _ hm=>?_) λb hb=>?_)
 ·unfold ug
  refine Tot.cd (λh2=>?_) λh2=>Tot.sb (cu h2 hm)
  obtain⟨o,ho,hom,hk⟩: ∃o,aq s.aR t.1=some o∧o∈s.aR∧(o.ci≠k→∀y∈s.aR.take (t.1+1).toNat,y.ci≠k):=Tot.gm (Q:=λo=>o∈s.aR∧(o.ci≠k→∀y∈s.aR.take (t.1+1).toNat,y.ci≠k)) ⟨h1,h2⟩ λx hx ht=>⟨hx,λh=>ht hm h⟩
  exact Tot.b (Tot.ge ho (Tot.cd (λh=>Tot.b (Tot.ge ho (Tot.sb ⟨hom,h⟩))) λh=>Tot.i (by omega) (Tot.sn ⟨h2,rfl,hk h,trivial⟩)))
 cases b with
 |inl o=>exact Tot.s ⟨λ_=>hb,by simp⟩
 |inr _=>exact Tot.s ⟨by simp,λ_=>⟨rfl,hb⟩⟩
theorem start25 {B:Nat} {w:bH} {i:Int} (hN:10000000000000000000<n) (hw:WkOK B w) (hB:B≤100):Tot (rc n w i) λr=>r.2.2=0→∃t:dq,t.aJ=0∧t.bm=[]∧r.1=⟨w.aA,w.co,w.bI,w.ig,w.be,w.bG,w.am,w.an++[t],w.aJ,w.cm⟩:=by
 have hn:10000000000001<n:=by omega
 have hs:=hw.sml hB
 have ht:=hs.tk
 obtain⟨m,hm,_⟩:=AM hn w hs
 unfold rc zn
 refine Tot.b (Tot.ge hm (Tot.cn (Tot.c (λ_=>Tot.cn (Tot.cd (λ_=>Tot.b ((ready25 hn hs).m λrd ⟨hrl,hrd⟩=>?_)) λ_=>Tot.s (by simp))) λ_=>Tot.s (by simp))))
 have hc:=hs.ch
 refine Tot.cl ⟨hn,by omega⟩ λb hb'=>Tot.cn (Tot.c (λh=>?_) λ_=>Tot.s (by simp))
 refine Tot.b (Tot.gy (hrd i (hb' h)) λc _ _=>Tot.b ((ids23 hn hw hB).m λids hids=>Tot.cl ⟨hN,hw.fl,hw.ag,hids⟩ λp hp=>Tot.cn (Tot.cd (λ_=>?_) λh=>Tot.s λh'=>(h h').elim)))
 refine Tot.b (Tot.m (R:=λ_=>True) (Tot.cd (λ_=>Tot.b ((own22 hn hw.od.1.ow).m λ_ _=>Tot.s trivial)) λ_=>Tot.s trivial) λy _=>Tot.b (Tot.i (by omega) (Tot.n (by simp;omega) (Tot.n (by simp;omega) (Tot.s (Tot.s λ_=>⟨(⟨i,0,⟨(w.an.length:Int)+1,y.1,y.2,c.bB,p.1⟩,0,[]⟩:dq),rfl,rfl,by simp⟩))))))
theorem end25 {B:Nat} {w:bH} {i:Int} {a:TE0} (hn:10000000000001<n) (hw:WkOK B w) (hB:B≤100) (ha:a.bm.length≤2000):Tot (wD n w i a) λr=>r.2=0→∃ts:Cx,(ts.length=w.an.length∧∀t∈ts,t.bm.length≤2000∧t.aJ=0)∧r.1=⟨w.aA,w.co,w.bI,w.ig,w.be,w.bG,w.am,ts,w.aJ,w.cm⟩:=by
 have hs:=hw.sml hB
 have ht:=hs.tk
 obtain⟨m,hm,_⟩:=AM hn w hs
 unfold wD
 refine Tot.b (Tot.m (R:=λ_=>True) (Tot.b (Tot.ge hm (Tot.cn (Tot.c (λ_=>Tot.s trivial) λ_=>Tot.s trivial)))) λ_ _=>Tot.c (λ_=>Tot.s (by simp)) λ_=>Tot.b (Tot.m (R:=λb=>b=false→1≤i∧i≤w.an.length) (Tot.cd (λ_=>Tot.s (by simp)) λ_=>Tot.s (by simp;omega)) λb hb=>Tot.c (λ_=>Tot.s (by simp)) λh=>?_))
 have hi:=hb h
 simp only[List.nil_append]
 refine Tot.i (by omega) (Tot.b (Tot.gy (by omega) λt hte htm=>Tot.cn (Tot.cd (λ_=>Tot.n (by simp;omega) (Tot.i (by omega) (Tot.b (Tot.ge hte ?_)))) λ_=>Tot.s (by simp))))
 obtain⟨h1,h2⟩:=hw.tp t htm
 refine Tot.b (Tot.m (R:=λy=>y.2.length≤2000) (Tot.c (λ_=>Tot.s ha) λ_=>Tot.s h1) λy hy=>Tot.i (by omega) (Tot.b (Tot.ge hte (Tot.s λ_=>⟨_,⟨?_,λx hx=>?_⟩,rfl⟩))))
 ·simp
 rcases List.mem_or_eq_of_mem_set hx with hx|hx
 ·exact hw.tp x hx
 rw[hx];exact⟨hy,h2⟩
structure FinOK (k:Int) (s:gH) (w:bH):Prop where
 kd:w.aA=k
 od:w.bI=s
 ph:w.aJ=2
 ok:Okt w
 sm:WkOK 100 w
 ts: ∀t∈w.an,t.bW≠0
theorem work27w {k wd : Int} {s : gH} {t : cI} {gs : Cp} (hN : 10000000000000000000 < n) (hs : dsz (gd s) ≤ 2000000) (ht : dsz (ba t) ≤ 2000000) (hg : zl gs ≤ 2000000) : Tot (tc n k s t gs wd) fun r => r.2 = true → FinOK k s r.1 ∧ r.1.co = wd := by
 have hn : 10000000000001 < n := by omega
 have hg' := AE hg
 unfold tc
 refine Tot.b (Tot.m (R := fun b => b = false → StOK s) (Tot.cl ⟨hn, ht, hg'.1⟩ fun _ _ => Tot.c (fun _ => Tot.s (by simp)) fun _ => Tot.b ((Great22 hn hs).m fun b hb => Tot.s hb)) fun b hb => Tot.c (fun _ => Tot.s (by simp)) fun h => ?_)
 have hst := hb h
 refine Tot.b ((plan23 hN hst ht hg'.2).m fun p hp => Tot.cn (Tot.cd (fun h0 => ?_) fun _ => Tot.s (by simp)))
 obtain ⟨q, _⟩ := hp h0
 refine Tot.b (Tot.m (R := fun b => match b with | .inl y => y.1 = true → FinOK k s y.2.2 ∧ y.2.2.co = wd | .inr _ => True) (Tot.li (fun u => u.1) (fun u => u.1 ≤ 40 ∧ u.2.2.aA = k ∧ u.2.2.bI = s ∧ u.2.2.aJ = 0 ∧ u.2.2.co = wd ∧ WkOK u.1.toNat u.2.2) 40 (by omega) ⟨by simp, by simp, q.kd, q.od, q.ph, q.wi, q.fl, q.ag, q.ch, q.od ▸ hst, by rw [q.tk]; simp, by rw [q.tk]; simp⟩ fun u h1 ⟨h2, h3, h4, h5, hwi, h6⟩ => ?_) fun b hb => ?_)
 ·unfold wT
  have h6l := h6.tl
  have e0 : (u.1 + 1).toNat = u.1.toNat + 1 := by omega
  refine Tot.cd (fun h7 => Tot.b ((next25 hn h6 (by omega) h5).m fun x hx => Tot.cn (Tot.cd (fun hx0 => ?_) fun hx0 => Tot.sb fun h2 => ?_))) fun _ => Tot.sb trivial
  ·have hxe : x = u.2.2 := by
    rcases hx with hx | hx | ⟨hx, _⟩
    ·exact hx
    ·rw [hx] at hx0; cases hx0
    rw [hx] at hx0; cases hx0
   subst hxe
   refine Tot.b ((ready25 hn (h6.sml (by omega))).m fun rd hrd => Tot.cd (fun _ => Tot.sb (by simp)) fun hl => ?_)
   refine Tot.b (Tot.m (R := fun r => r.2.2 = 0 → ∃ t : dq, t.aJ = 0 ∧ t.bm = [] ∧ r.1 = ⟨u.2.2.aA, u.2.2.co, u.2.2.bI, u.2.2.ig, u.2.2.be, u.2.2.bG, u.2.2.am, u.2.2.an ++ [t], u.2.2.aJ, u.2.2.cm⟩) (Tot.b (Tot.gy (by omega) fun i _ _ => Tot.b ((start25 hN h6 (by omega)).m fun r hr => Tot.s hr))) fun y hy => Tot.cn (Tot.cd (fun hy0 => ?_) fun _ => Tot.sb (by simp)))
   obtain ⟨tk, t1, t2, t3⟩ := hy hy0
   have w1 : WkOK (u.1.toNat + 1) y.1 := by
    rw [t3]
    exact ⟨h6.fl, h6.ag, h6.ch, h6.od, by simp; omega, fun x hx => by
     rcases List.mem_append.1 hx with hx | hx
     ·exact h6.tp x hx
     rw [List.mem_singleton.1 hx, t1, t2]; simp⟩
   have e1 : u.1.tdiv 10 = u.1 / 10 := Int.tdiv_eq_ediv_of_nonneg h1
   have e2 : u.1.tmod 10 = u.1 % 10 := Int.tmod_eq_emod_of_nonneg h1
   refine Tot.n (by decide) (Tot.i (by omega) (Tot.i (by omega) (Tot.n (by decide) (Tot.i (by omega) (Tot.n (ut _) (Tot.n (ut _) (Tot.n (by simp) (Tot.b ((end25 hn w1 (by omega) (by simp)).m fun z hz => Tot.cn (Tot.cd (fun hz0 => ?_) fun _ => Tot.sb (by simp)))))))))))
   obtain ⟨ts, ⟨z1, z2⟩, z3⟩ := hz hz0
   refine Tot.i (by omega) (Tot.sn ⟨h7, by dsimp only; omega, by dsimp only; omega, ?_, ?_, ?_, ?_, ?_⟩)
   ·dsimp only; rw [z3, t3]; exact h3
   ·dsimp only; rw [z3, t3]; exact h4
   ·dsimp only; rw [z3, t3]; exact h5
   ·dsimp only; rw [z3, t3]; exact hwi
   dsimp only; rw [z3, e0]
   exact ⟨w1.fl, w1.ag, w1.ch, w1.od, by rw [z1]; exact w1.tl, z2⟩
  rcases hx with hx | hx | ⟨hx, hok, hts⟩
  ·rw [hx] at hx0; exact (hx0 h5).elim
  ·rw [hx] at h2; simp at h2
  rw [hx]
  exact ⟨⟨h3, h4, rfl, ⟨hok.wd, by simp, hok.ck, hok.tk, hok.un, hok.ah⟩, ⟨h6.fl, h6.ag, h6.ch, h6.od, by dsimp only; omega, h6.tp⟩, hts⟩, hwi⟩
 cases b with
 | inl y => exact Tot.s hb
 | inr y => exact Tot.s (by simp)
structure Sm (l:LL):Prop where
 len:l.length≤3000000
 row: ∀r∈l,r.length≤3000000
theorem Sm.turned {l:LL} (h:Sm l):Sm (turnedL l):=⟨by rw[qs];exact h.len,λr hr=>by
 obtain⟨k,rfl⟩:=aAf (l:=l) hr
 exact Nat.le_trans (yH _ _) h.len⟩
theorem Sm.at_ {l:LL} (h:Sm l) (k:Nat): (l.getD k []).length≤3000000:=by
 by_cases hk:k<l.length
 ·exact h.row _ (ul hk)
 simp[List.getD,List.getElem?_eq_none (Nat.le_of_not_lt hk)]
theorem turned_eq {n:Nat} {l:LL} (h:Sm l):mA n l=some (turnedL l):=
 di ⟨by have:=h.len;omega,λr hr=>by have:=h.row r hr;omega⟩
theorem vc {n:Nat} {xs:CD} {q:Int→Bool} {step:Int→Option (Lp Int (Sum Int Unit))} (hn:xs.length<n)
 (hs: ∀k:Nat,k<xs.length→step (k:Int)=if q (xs.getD k 0)=true then some (.br (.inl (k:Int))) else some (.nx ((k:Int)+1))) (he:step (xs.length:Int)=some (.br (.inr ()))):
 (((av step n 0).bind λnR=>match nR with|.inl y=>some y|.inr _=>some (-1:Int)).bind λx=>some (decide ((0:Int)≤x)))=some (xs.any q):=by
 have:=BB (n:=n) (λk:Nat=>(k:Int)) (λk=>if q (xs.getD k 0)=true then some (.inl (k:Int)) else none) xs.length (.inr ():Sum Int Unit) (λk hk=>by
  rw[hs k hk]
  by_cases h:q (xs.getD k 0)=true
  ·rw[if_pos h,if_pos h]
  rw[if_neg h,if_neg h];rfl) he hn
 have e0: ((0:Nat):Int)=0:=rfl
 simp only[e0] at this
 rw[this,bnd]
 have ha:=any_range (0:Int) q xs
 cases h:xs.any q with
 |true=>
  rw[h] at ha
  cases h2: (List.range xs.length).findSome? (λk=>if q (xs.getD k 0)=true then some (Sum.inl (k:Int):Sum Int Unit) else none) with
  |some x=>
   obtain⟨k,hk,hxx⟩:=List.exists_of_findSome?_eq_some h2
   by_cases hq:q (xs.getD k 0)=true
   ·rw[if_pos hq] at hxx
    cases hxx
    simp
   rw[if_neg hq] at hxx;cases hxx
  |none=>
   rw[List.findSome?_eq_none_iff] at h2
   obtain⟨k,hk,hq⟩:=List.any_eq_true.1 ha
   have:=h2 k hk
   rw[if_pos hq] at this;cases this
 |false=>
  rw[h] at ha
  have: (List.range xs.length).findSome? (λk=>if q (xs.getD k 0)=true then some (Sum.inl (k:Int):Sum Int Unit) else none)=none:=by
   rw[List.findSome?_eq_none_iff]
   intro k hk
   have:=List.any_eq_false.1 ha k hk
   rw[if_neg this]
  rw[this];rfl
theorem may1_eq {n:Nat} (x:Int) (l:LL):qy n x l=some (decide (x<0)||decide ((l.length:Int)≤x)):=by
 unfold qy
 cases decide (x<0)<;>simp
theorem mayC_eq {n:Nat} (xs:CD) (l:LL) (hx:xs.length≤3000000) (hn:3000000<n):dy n xs l=some (xs.any λx=>decide (x<0)||decide ((l.length:Int)≤x)):=by
 unfold dy gS
 refine vc (q:=λx=>decide (x<0)||decide ((l.length:Int)≤x)) (by omega) (λk hk=>?_) ?_
 ·unfold eO
  simp only[dT (by omega: (k:Int)<xs.length),cT,ji 0 hk,bnd,may1_eq]
  rw[bL (by omega) (by omega),sk]
 unfold eO;simp
theorem may_eq {n : Nat} (l : LL) (st : List Int) (h : Sm l) (hn : 3000000 < n) : sx n l st = some (mayB l st) := by
 unfold sx
 have hlen := h.len
 by_cases hl : l.length = st.length
 ·have hs : ∀ k : Nat, k < l.length → kD n l st (k : Int) = if (!rowOk l st k) = true then some (.br (.inl ())) else some (.nx ((k : Int) + 1)) := fun k hk => by
   unfold kD
   simp only [decide_eq_true (by omega : (k : Int) < l.length), cT, ji [] hk, ji (xs := st) 0 (by omega : k < st.length), bnd, mayC_eq _ l (h.at_ k) hn]
   rw [bL (by omega) (by omega), rowOk_eq, Bool.not_not]
   cases decide (st.getD k 0 < 0) with
   | true => rfl
   | false =>
    cases decide ((5 : Int) < st.getD k 0) with
    | true => rfl
    | false =>
     simp only [Vc.cF, Bool.false_or]
     rw [sk]
  have he : kD n l st (l.length : Int) = some (.br (.inr ())) := by unfold kD; simp
  rw [loop_any _ _ _ _ hs he (by omega), decide_eq_true (by omega : (l.length : Int) = st.length)]
  simp only [Bool.not_true, Vc.cF, bnd]
  unfold mayB
  rw [decide_eq_true hl, Bool.true_and]
  have : ((List.range l.length).any fun k => !rowOk l st k) = !((List.range l.length).all (rowOk l st)) := by
   rw [List.not_all_eq_any_not]
  rw [this]
  cases (List.range l.length).all (rowOk l st) <;> rfl
 have h1 : ¬ ((l.length : Int) = (st.length : Int)) := by omega
 rw [decide_eq_false h1, mayB_len hl]; rfl
theorem every_eq {n:Nat} (xs st:CD) (hx:xs.length≤3000000) (hin: ∀x∈xs,0≤x∧x<st.length) (hn:3000000<n):qA n xs st=some (allQr xs λx=>letsB (st.getD x.toNat 0)):=by
 have hc:de n xs st=some (xs.any λx=> !letsB (st.getD x.toNat 0)):=by
  unfold de eW
  refine vc (q:=λx=> !letsB (st.getD x.toNat 0)) (by omega) (λk hk=>?_) ?_
  ·have hm:=hin _ (Br hk)
   unfold dX rl tg xF
   simp only[dT (by omega: (k:Int)<xs.length),cT,ji 0 hk,bnd,getI_in 0 hm.1 hm.2]
   rw[bL (by omega) (by omega),sk]
   unfold letsB
   cases decide (st.getD (xs.getD k 0).toNat 0=0)<;>simp
  unfold dX;simp
 unfold qA
 rw[hc,bnd,any_all];rfl
theorem some_eq {n:Nat} (xs st:CD) (hx:xs.length≤3000000) (hin: ∀x∈xs,0≤x∧x<st.length) (hn:3000000<n):ti n xs st=some (anyQ xs λx=>blocksB (st.getD x.toNat 0)):=by
 have hc:df n xs st=some (xs.any λx=>blocksB (st.getD x.toNat 0)):=by
  unfold df eX
  refine vc (q:=λx=>blocksB (st.getD x.toNat 0)) (by omega) (λk hk=>?_) ?_
  ·have hm:=hin _ (Br hk)
   unfold dY pd te
   simp only[dT (by omega: (k:Int)<xs.length),cT,ji 0 hk,bnd,getI_in 0 hm.1 hm.2]
   rw[bL (by omega) (by omega),sk]
   unfold blocksB
   cases decide (st.getD (xs.getD k 0).toNat 0=4)<;>simp
  unfold dY;simp
 unfold ti
 rw[hc,bnd];rfl
theorem sel_loop {n:Nat} {F:Nat→Bool} {len:Nat} {step:CD×Int→Option (Lp (CD×Int) CD)} (hl:len≤3000000) (hn:3000000<n)
 (hs: ∀ (k:Nat) (r:CD),k<len→r.length≤k→step (r,(k:Int))=if F k=true then some (.nx (r++[(k:Int)],(k:Int)+1)) else some (.nx (r,(k:Int)+1)))
 (he: ∀r,step (r,(len:Int))=some (.br r)):av step n ([],0)=some (sel F len):=by
 refine loop_all (λk:Nat=>(sel F k,(k:Int))) len (sel F len) (λk hk=>?_) (he _) (by omega)
 show step (sel F k,(k:Int))=_
 rw[hs k _ hk (yH F k)]
 cases h:F k with
 |true=>rw[sel_yes h];rfl
 |false=>rw[sel_no h];rfl
theorem overL_eq {n:Nat} (l:LL) (st:CD) (h:Sm l) (hl:l.length=st.length) (hin: ∀r∈l,∀x∈r,0≤x∧x<st.length) (hn:3000000<n):tf n l st=some (sel (pickF allQr letsB l st) st.length):=by
 unfold tf
 have hlen:=h.len
 rw[sel_loop (F:=pickF allQr letsB l st) (len:=st.length) (by omega) hn (λk r hk hr=>?_) (λr=>?_)]
 ·rfl
 ·unfold rm pickF
  simp only[dT (by omega: (k:Int)<st.length),cT,ji 0 hk,ji (xs:=l) [] (by omega:k<l.length),bnd,every_eq _ st (h.at_ k) (hin _ (ul (by omega))) hn]
  have hi:inR .i64 ((k:Int)+1):=yR (by omega) (by omega)
  have hj: (r.length+1)*8≤140737488355328:=by omega
  simp only[di hi,di hj]
  cases decide (st.getD k 0=1) with
  |false=>rfl
  |true=>
   simp only[cT,bnd,Bool.true_and]
   rw[sk]
 unfold rm;simp
theorem overB_eq {n:Nat} (l:LL) (st:CD) (h:Sm l) (hl:l.length=st.length) (hin: ∀r∈l,∀x∈r,0≤x∧x<st.length) (hn:3000000<n):oo n l st=some (sel (pickF anyQ blocksB l st) st.length):=by
 unfold oo
 have hlen:=h.len
 rw[sel_loop (F:=pickF anyQ blocksB l st) (len:=st.length) (by omega) hn (λk r hk hr=>?_) (λr=>?_)]
 ·rfl
 ·unfold nn pickF
  simp only[dT (by omega: (k:Int)<st.length),cT,ji 0 hk,ji (xs:=l) [] (by omega:k<l.length),bnd,some_eq _ st (h.at_ k) (hin _ (ul (by omega))) hn]
  have hi:inR .i64 ((k:Int)+1):=yR (by omega) (by omega)
  have hj: (r.length+1)*8≤140737488355328:=by omega
  simp only[di hi,di hj]
  cases decide (st.getD k 0=1) with
  |false=>rfl
  |true=>
   simp only[cT,bnd,Bool.true_and]
   rw[sk]
 unfold nn;simp
theorem ways_eq {n:Nat} (l:LL) (b:Bool) (h:Sm l):pf n l b=some (wayL l b):=by
 unfold pf wayL
 rw[turned_eq h]
 cases b<;>rfl
theorem Sm.way {l:LL} (h:Sm l) (b:Bool):Sm (wayL l b):=by
 cases b with
 |false=>exact h
 |true=>exact h.turned
theorem ready_eq {n:Nat} (l:LL) (st:CD) (b:Bool) (h:Sm l) (hn:3000000<n):qz n l st b=some (readyR l st b,bif mayB l st then 0 else 2):=by
 unfold qz readyR
 rw[may_eq l st h hn,bnd]
 cases hm:mayB l st with
 |false=>rfl
 |true=>
  simp only[nT,Vc.cF,cT]
  rw[ways_eq l b h,bnd,overL_eq _ st (h.way b) (by rw[wayL_len];exact(xZ hm).1) (way_in hm) hn]
  rfl
inductive Blk (l:LL) (st:List Int):Nat→Prop
 |base {i:Nat}:i<st.length→blocksB (st.getD i 0)=true→Blk l st i
 |step {i:Nat} {x:Int}:i<st.length→st.getD i 0=1→x∈l.getD i []→Blk l st x.toNat→Blk l st i
open Classical in noncomputable def settledL (l:LL) (st:CD):CD:=(List.range st.length).map λi=>if st.getD i 0=1∧Blk l st i then 5 else st.getD i 0
theorem wh (l:LL) (st:CD): (settledL l st).length=st.length:=by simp[settledL]
theorem lP {l:LL} {st:CD} {i:Nat} (hi:i<st.length): (st.getD i 0=1∧Blk l st i∧(settledL l st).getD i 0=5)∨(¬ (st.getD i 0=1∧Blk l st i)∧(settledL l st).getD i 0=st.getD i 0):=by
 classical
 have h: (settledL l st).getD i 0=if st.getD i 0=1∧Blk l st i then 5 else st.getD i 0:=by
  simp[settledL,hi]
 by_cases hb:st.getD i 0=1∧Blk l st i
 ·exact .inl ⟨hb.1,hb.2,by rw[h,if_pos hb]⟩
 exact .inr ⟨hb,by rw[h,if_neg hb]⟩
structure SI (l:LL) (st out:List Int):Prop where
 len:out.length=st.length
 at_: ∀i,i<st.length→out.getD i 0=st.getD i 0∨(st.getD i 0=1∧out.getD i 0=5∧Blk l st i)
theorem SI.start (l:LL) (st:CD):SI l st st:=⟨rfl,λ_ _=>.inl rfl⟩
theorem wm {out:CD} {i j:Nat} {v:Int} (hi:i<out.length): (out.set i v).getD j 0=if i=j then v else out.getD j 0:=by
 simp only[List.getD_eq_getElem?_getD,List.getElem?_set]
 by_cases h:i=j
 ·subst h;simp[hi]
 simp[h]
theorem SI.put {l:LL} {st out:CD} (h:SI l st out) {i:Nat} (hi:i<st.length) (h1:st.getD i 0=1) (hb:Blk l st i):SI l st (out.set i 5):=by
 refine⟨by rw[List.length_set];exact h.len,λj hj=>?_⟩
 rw[wm (by rw[h.len];exact hi)]
 by_cases e:i=j
 ·subst e;rw[if_pos rfl];exact .inr ⟨h1,rfl,hb⟩
 rw[if_neg e];exact h.at_ j hj
theorem SI.blk {l:LL} {st out:CD} (h:SI l st out) {i:Nat} (hi:i<st.length) (hb:blocksB (out.getD i 0)=true):Blk l st i:=by
 rcases h.at_ i hi with e|⟨_,_,e⟩
 ·exact .base hi (e▸hb)
 exact e
theorem SI.wait {l:LL} {st out:CD} (h:SI l st out) {i:Nat} (hi:i<st.length) (hb:out.getD i 0=1):st.getD i 0=1:=by
 rcases h.at_ i hi with e|⟨e,_⟩
 ·exact e▸hb
 exact e
theorem SI.done {l:LL} {st out:CD} (h:SI l st out) (hin: ∀r∈l,∀x∈r,0≤x∧x<st.length) (hl:l.length=st.length)
 (hc: ∀i,i<st.length→out.getD i 0=1→∀x∈l.getD i [],blocksB (out.getD x.toNat 0)=false):out=settledL l st:=by
 have key: ∀i,Blk l st i→i<st.length→blocksB (out.getD i 0)=true:=by
  intro i hb
  induction hb with
  |base hi hb=>
   intro _
   rcases h.at_ _ hi with e|⟨e,_⟩
   ·rw[e];exact hb
   rw[e] at hb;simp[blocksB] at hb
  |@step i x hi h1 hx hbx ih=>
   intro _
   have hxr:=hin _ (ul (l:=l) (by omega)) x hx
   have hb:=ih (by omega)
   rcases h.at_ i hi with e|⟨_,e,_⟩
   ·have:=hc i hi (e.trans h1) x hx
    rw[hb] at this;cases this
   rw[e];rfl
 apply List.ext_getElem (by rw[wh];exact h.len)
 intro i h1 h2
 have hi:i<st.length:=by rw[←h.len];exact h1
 have goal:out.getD i 0=(settledL l st).getD i 0:=by
  rcases lP (l:=l) hi with⟨e1,e2,e3⟩|⟨e1,e2⟩
  ·rw[e3]
   rcases h.at_ i hi with e|⟨_,e,_⟩
   ·have:=key i e2 hi
    rw[e,e1] at this
    simp[blocksB] at this
   exact e
  rw[e2]
  rcases h.at_ i hi with e|⟨e3,_,e4⟩
  ·exact e
  exact absurd ⟨e3,e4⟩ e1
 simpa [List.getD,h1,h2] using goal
theorem cnt_set {out:CD} {i:Nat} (hi:i<out.length):cntI 1 (out.set i 5)≤cntI 1 out∧(out.getD i 0=1→cntI 1 (out.set i 5)<cntI 1 out):=by
 unfold cntI
 rw[List.countP_set hi]
 have e5: ((5:Int)==1)=false:=rfl
 simp only[e5,Bool.false_eq_true,if_false,Nat.add_zero]
 refine⟨by omega,λh=>?_⟩
 have h1:out[i]=1:=by simpa [List.getD,hi] using h
 have:0<out.countP (· ==1):=List.countP_pos_iff.2 ⟨out[i],List.getElem_mem hi,by rw[h1];rfl⟩
 rw[h1]
 simp only[beq_self_eq_true,if_true]
 omega
theorem settle_eq {n:Nat} (l:LL) (st:CD) (b:Bool) (h:Sm l) (hn:3000000<n):ol n l st b=some (bif mayB l st then settledL (wayL l b) st else [],bif mayB l st then 0 else 2):=by
 unfold ol
 rw[may_eq l st h hn,bnd]
 cases hm:mayB l st with
 |false=>rfl
 |true=>
  have hlen:=h.len
  have hml:=(xZ hm).1
  have hW:=h.way b
  have hWl: (wayL l b).length=st.length:=by rw[wayL_len];exact hml
  have hin:=way_in (b:=b) hm
  simp only[nT,Vc.cF,cT]
  rw[ways_eq l b h,bnd]
  have hcl:dG n st=some st:=di (by omega)
  rw[hcl,bnd]
  obtain⟨r,h1,h2⟩:=loop_meas (n:=n) (step:=nk n (wayL l b)) (s0:=st) (λout=>SI (wayL l b) st out) (λout=>cntI 1 out) (λout=>out=settledL (wayL l b) st) (SI.start _ st) (λout hI=>by
   have hol:=hI.len
   unfold nk
   rw[overB_eq (wayL l b) out hW (by omega) (by rw[hol];exact hin) hn,bnd]
   have hmem: ∀x,x∈sel (pickF anyQ blocksB (wayL l b) out) out.length→∃i:Nat,x=i∧i<st.length∧out.getD i 0=1∧Blk (wayL l b) st i:=λx hx=>by
    obtain⟨i,e,hi,hp⟩:=oM.1 hx
    simp only[pickF,anyQ,Bool.and_eq_true,decide_eq_true_eq,List.any_eq_true] at hp
    obtain⟨hp1,y,hy,hp2⟩:=hp
    have hyr:=hin _ (ul (l:=wayL l b) (by omega)) y hy
    exact⟨i,e,by omega,hp1,.step (by omega) (hI.wait (by omega) hp1) hy (hI.blk (by omega) hp2)⟩
   by_cases h0: (sel (pickF anyQ blocksB (wayL l b) out) out.length).length=0
   ·right
    refine⟨out,by rw[dT (by omega)];rfl,hI.done hin hWl λi hi h1 x hx=>?_⟩
    cases hb:blocksB (out.getD x.toNat 0) with
    |false=>rfl
    |true=>
     exfalso
     have: (i:Int)∈sel (pickF anyQ blocksB (wayL l b) out) out.length:=oM.2 ⟨i,rfl,by omega,by
      simp only[pickF,anyQ,Bool.and_eq_true,decide_eq_true_eq,List.any_eq_true]
      exact⟨h1,x,hx,hb⟩⟩
     rw[List.eq_nil_of_length_eq_zero h0] at this
     cases this
   left
   have hsl:=yH (pickF anyQ blocksB (wayL l b) out) out.length
   generalize hX:sel (pickF anyQ blocksB (wayL l b) out) out.length=X at*
   obtain⟨r,g1,g2⟩:=dn (n:=n) (step:=jP n X) (s0:=(out,(0:Int))) (λk s=>s.2=(k:Int)∧SI (wayL l b) st s.1∧cntI 1 s.1≤cntI 1 out∧(k=0→s.1=out)∧(0<k→cntI 1 s.1<cntI 1 out))
    (λr=>SI (wayL l b) st r∧cntI 1 r<cntI 1 out) X.length ⟨rfl,hI,Nat.le_refl _,λ_=>rfl,λh=>absurd h (Nat.lt_irrefl 0)⟩ (λk s hk ⟨i1,i2,i3,i4,i5⟩=>by
     left
     obtain⟨s1,s2⟩:=s
     simp only at i1 i2 i3 i4 i5
     subst i1
     obtain⟨i,e,hi,ho,hb⟩:=hmem _ (Br hk)
     have hsl:=i2.len
     refine⟨(s1.set i 5,(k:Int)+1),?_,by simp,i2.put hi (hI.wait hi ho) hb,?_,λh=>by omega,λ_=>?_⟩
     ·unfold jP
      simp only[dT (by omega: (k:Int)<X.length),cT,ji 0 hk,bnd]
      rw[e,ji 0 (by omega),bnd,bL (by omega) (by omega)];rfl
     ·exact Nat.le_trans (cnt_set (by omega)).1 i3
     rcases Nat.eq_zero_or_pos k with h0|h0
     ·have e0:=i4 h0
      simp only at e0 ⊢
      rw[e0]
      exact(cnt_set (by omega)).2 ho
     exact Nat.lt_of_le_of_lt (cnt_set (by omega)).1 (i5 h0))
    (λs ⟨i1,i2,i3,i4,i5⟩=>⟨s.1,by unfold jP;simp[i1],i2,i5 (by omega)⟩) (by omega)
   refine⟨r,?_,g2.1,g2.2⟩
   rw[dF (by omega: ¬ (X.length:Int)=0)]
   simp only[Vc.cF]
   rw[g1];rfl) (by have:=cntI_all 1 st;omega)
  rw[h1,bnd,h2]
theorem mayB_of {l:LL} {st:CD} (h1:l.length=st.length) (h2: ∀i,i<st.length→0≤st.getD i 0∧st.getD i 0≤5) (h3: ∀r∈l,∀x∈r,0≤x∧x<l.length):mayB l st=true:=by
 refine mayB_yes h1 λi hi=>rowOk_yes (by have:=h2 i (by omega);omega) ?_
 rw[List.any_eq_false]
 intro x hx
 have:=h3 _ (ul hi) x hx
 simp;omega
theorem mayB_more {l:LL} {st st':CD} (h:mayB l st=true) (hl:st'.length=st.length) (h2: ∀i,i<st.length→0≤st'.getD i 0∧st'.getD i 0≤5):mayB l st'=true:=by
 obtain⟨a,_,c⟩:=xZ h
 exact mayB_of (by omega) (λi hi=>h2 i (by omega)) c
theorem settled_may {l W:LL} {st:CD} (h:mayB l st=true):mayB l (settledL W st)=true:=by
 obtain⟨_,b,_⟩:=xZ h
 refine mayB_more h (wh _ _) λi hi=>?_
 rcases lP (l:=W) hi with⟨_,_,e⟩|⟨_,e⟩
 ·rw[e];omega
 rw[e];exact b i hi
theorem turned_at {R:LL} {k:Nat} (h:k<R.length): (turnedL R).getD k []=sel (hits R k) R.length:=by simp[turnedL,List.getD,h]
theorem aAe {R:LL} {i:Nat} (hi:i<R.length) {x:Int}:x∈ (turnedL R).getD i []↔ ∃k:Nat,x=k∧k<R.length∧(i:Int)∈R.getD k []:=by
 rw[turned_at hi,oM]
 unfold hits
 constructor
 ·rintro⟨k,e,hk,h⟩
  obtain⟨y,hy,hy2⟩:=List.any_eq_true.1 h
  exact⟨k,e,hk,by rw[←of_decide_eq_true hy2];exact hy⟩
 rintro⟨k,e,hk,h⟩
 exact⟨k,e,hk,List.any_eq_true.2 ⟨_,h,dT rfl⟩⟩
theorem leans_at {l:Cv} {R:LL} (h:LeansOf l R) {r:CD} (hr:r∈R): ∃i,i<l.length∧R.getD i []=r:=by
 obtain⟨i,hi,rfl⟩:=List.getElem_of_mem hr
 exact⟨i,h.len▸hi,by simp[List.getD,hi]⟩
theorem leans_in {l:Cv} {R:LL} (h:LeansOf l R): ∀r∈R,∀x∈r,0≤x∧x<R.length:=by
 intro r hr x hx
 obtain⟨i,hi,rfl⟩:=leans_at h hr
 have:=hits_in ((h.row i hi x).1 hx)
 rw[h.len];exact this
theorem xX {l:Cv} {R:LL} (h:LeansOf l R) (hl:l.length≤3000000):Sm R:=⟨by rw[h.len];omega,λr hr=>by
 obtain⟨i,hi,rfl⟩:=leans_at h hr
 have:=h.sz i hi
 omega⟩
end Go.Proofs.YtkmbfmdhoeibhaaGreat
end
