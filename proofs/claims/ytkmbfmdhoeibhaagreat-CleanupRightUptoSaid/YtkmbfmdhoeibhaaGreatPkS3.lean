/-
  Texts of this claim, packed (what nothing names is left out): Q1, Q2e, Q2h, Q2, Q3, Q4, P1, Q5, P2, Q6a, Q6. Own work, partly printed by own programs. No condition.
-/
import Derived.Test.YtkmbfmdhoeibhaaGreatPkS2
import Derived.Test.YtkmbfmdhoeibhaaGreatRows
import Derived.Test.YtkmbfmdhoeibhaaGreatPkS1
set_option linter.unusedVariables false
set_option linter.unusedSimpArgs false
set_option maxHeartbeats 2000000
namespace Go.Proofs.YtkmbfmdhoeibhaaGreat
open Go Go.Vc Go.RowKit
open Go.Ck
def tj (n:Nat) (d0:Bs) (d1:Int) (G5:Int×Int×Int) (K1:Int×Int):Option (Lp (Int×Int) (Sum Unit Int)):=bif decide (K1.2<G5.1) then ar (inR .i64 (d1+K1.2))<|(aq d0 (d1+K1.2)).bind λc_2=>(bif decide (((c_2).toNat:Int)<128) then some (true) else some (decide ((191:Int)<((c_2).toNat:Int))):Option Bool).bind λG6=>bif G6 then some (.br (.inl ())) else ar (inR .i64 ((64:Int)*K1.1))<|ar (inR .i64 (((64:Int)*K1.1)+ ((c_2).toNat:Int)))<|ar (inR .i64 ((((64:Int)*K1.1)+ ((c_2).toNat:Int))-128))<|ar (inR .i64 (K1.2+1))<|some (.nx ((((64:Int)*K1.1)+ ((c_2).toNat:Int))-128,K1.2+1)) else some (.br (.inr K1.1))
variable (n:Nat)
def wu (d0:Bs) (d1:Int):Option (Int×Int):=(bif decide (d1<0) then some (true) else some (decide ((d0.length:Int)≤d1)):Option Bool).bind λG1=>bif G1 then some ((0:Int),(0:Int)) else(aq d0 d1).bind λsf=>(bif decide (((sf).toNat:Int)<128) then(some (((sf).toNat:Int),(1:Int)):Option (Int×Int)).map Lp.br else(bif decide ((192:Int)≤((sf).toNat:Int)) then some (decide (((sf).toNat:Int)<224)) else some (false):Option Bool).bind λG2=>bif G2 then some (.nx ((2:Int),bAnd .i64 ((sf).toNat:Int) (31:Int),(128:Int))) else(bif decide ((224:Int)≤((sf).toNat:Int)) then some (decide (((sf).toNat:Int)<240)) else some (false):Option Bool).bind λG3=>bif G3 then some (.nx ((3:Int),bAnd .i64 ((sf).toNat:Int) (15:Int),(2048:Int))) else(bif decide ((240:Int)≤((sf).toNat:Int)) then some (decide (((sf).toNat:Int)<248)) else some (false):Option Bool).bind λG4=>bif G4 then some (.nx ((4:Int),bAnd .i64 ((sf).toNat:Int) (7:Int),(65536:Int))) else(some ((0:Int),(0:Int)):Option (Int×Int)).map Lp.br:Option (Lp (Int×Int×Int) (Int×Int))).bind λj=>joinF j λG5=>ar (inR .i64 (d1+G5.1))<|bif decide ((d0.length:Int)<(d1+G5.1)) then some ((0:Int),(0:Int)) else(av (tj n d0 d1 G5) n (G5.2.1,(1:Int))).bind λQ1=>(match Q1 with|.inl G7=>some ((0:Int),(0:Int))|.inr G8=>(bif decide (G8<G5.2.2) then some (true) else bif decide ((1114111:Int)<G8) then some (true) else bif decide ((55296:Int)≤G8) then some (decide (G8≤57343)) else some (false):Option Bool).bind λG9=>bif G9 then some ((0:Int),(0:Int)) else some (G8,G5.1))
abbrev _root_.oK {ρ : Type} (F : List Fa) (E : List Ent) (f : FuncId) (a : List Value) (g : Option ρ) (p : ρ → Zs → Res) : Prop := OkC Tryz.prog F E f a g p
theorem ref01_One_C (d0:Bs) (d1:Int) (z:Zs):oK ([]) [] 278 [S d0,.int .i64 d1] (wu n d0 d1) (λr y=>⟨.tuple #[.int .i64 r.1,.int .i64 r.2],[],[]⟩):=
 fn 101 Tryz.func278 (jn (.reg 1) [] (λG1 _ _=>{L:=[(19,.bool G1)],ks:=[0,1]}) (bs [] 14 (rt []) (rt [])) (kA λ_=>br [] (rt []) (ob (λsf X1=>jb (.blk 0) [si X1,sw 23 (congrArg (Value.int .i64) (wG .i64 (by simp) sf))] (λG5 _ _=>{L:=[(7,.int .i64 G5.1),(8,.int .i64 G5.2.1),(9,.int .i64 G5.2.2)],ks:=[0,1]}) (br [] (esc [] (rt [])) (jn (.reg 8) [] (λG2 _ _=>{L:=[(29,.bool G2)],ks:=[0,1,6]}) (bs [] 32 (rt []) (rt [])) (kA λ_=>br [] (rt []) (jn (.reg 12) [] (λG3 _ _=>{L:=[(38,.bool G3)],ks:=[0,1,6]}) (bs [] 41 (rt []) (rt [])) (kA λ_=>br [] (rt []) (jn (.reg 16) [] (λG4 _ _=>{L:=[(47,.bool G4)],ks:=[0,1,6]}) (bs [] 50 (rt []) (rt [])) (kA λ_=>br [] (rt []) (esc [] (rt []))))))))) (kA λ_=>nd (λO1=>br [wr 58 O1] (rt []) (lp [] {} (λK1 _ _=>{L:=[(8,.int .i64 K1.1),(10,.int .i64 K1.2)],ks:=[0,1,7,9]}) (λx z b=>match x with|.inl G7=>{e:=.ret,L:=[(4,.int .i64 0),(5,.int .i64 0)]}|.inr G8=>{e:=.exit 1,L:=[(8,.int .i64 G8)],ks:=[7,9]}) (λK1=>br [] (nd (λO2=>ob (λc_2 X2=>jn (.reg 26) [wr 70 O2,si X2,sw 72 (congrArg (Value.int .i64) (wG .i64 (by simp) c_2))] (λG6 _ _=>{L:=[(78,.bool G6)],ks:=[0,1,7,8,9,10,11]}) (bs [] 75 (rt []) (rt [])) (kA λ_=>br [] (rt []) (nd (λO3=>nd (λO4=>nd (λO5=>nd (λO6=>rt [wr 80 O3,wr 82 O4,wr 83 O5,wr 66 O6]))))))))) (rt [])) (kS (kA λ_=>rt []) (kA λ_=>jn (.reg 29) [] (λG9 _ _=>{L:=[(98,.bool G9)],ks:=[7,8]}) (bs [] 87 (rt []) (bs [] 91 (rt []) (bs [] 94 (rt []) (rt [])))) (kA λ_=>br [] (rt []) (rt [])))))))))))
def pj (d0:Bs) (K1:Int):Option (Lp Int (Sum Unit Unit)):=bif decide (K1<(d0.length:Int)) then(wu n d0 K1).bind λX1=>bif decide (X1.2=0) then some (.br (.inl ())) else ar (inR .i64 (K1+X1.2))<|some (.nx (K1+X1.2)) else some (.br (.inr ()))
def gU (d0:Bs):Option Bool:=(av (pj n d0) n (0:Int)).bind λQ1=>(match Q1 with|.inl G1=>some (false)|.inr G2=>some (true))
theorem jD (d0:Bs) (z:Zs):oK ([]) [] 257 [S d0] (gU n d0) (λr y=>⟨.bool r,[],[]⟩):=
 fn 21 Tryz.func257 (lp [] {} (λK1 _ _=>{L:=[(3,.int .i64 K1)],ks:=[0]}) (λx z b=>match x with|.inl G1=>{e:=.ret,L:=[(2,.bool false)]}|.inr G2=>{e:=.exit 0}) (λK1=>br [] (ob (λ_ X2=>br [C (ref01_One_C n d0 K1) X2 [] [] 0] (rt []) (nd (λO1=>rt [wr 20 O1])))) (rt [])) (kS (kA λ_=>rt []) (kA λ_=>rt [])))
def kF (n:Nat) (d0:Int):Option Bool:=bif decide ((97:Int)≤d0) then bif decide (d0≤122) then some (true) else bif decide ((65:Int)≤d0) then some (decide (d0≤90)) else some (false) else bif decide ((65:Int)≤d0) then some (decide (d0≤90)) else some (false)
theorem vr (d0:Int) (z:Zs):oK ([]) [] 266 [.int .u8 d0] (kF n d0) (λr y=>⟨.bool r,[],[]⟩):=
 fn 17 Tryz.func266 (bs [] 5 (bs [] 9 (rt []) (bs [] 12 (rt []) (rt []))) (bs [] 12 (rt []) (rt [])))
def qB (n:Nat) (d0:Int):Option Bool:=bif decide ((48:Int)≤d0) then some (decide (d0≤57)) else some (false)
theorem ref01_digit_C (d0:Int) (z:Zs):oK ([]) [] 267 [.int .u8 d0] (qB n d0) (λr y=>⟨.bool r,[],[]⟩):=
 fn 9 Tryz.func267 (bs [] 5 (rt []) (rt []))
def rn (d0:Bs) (K1:Int):Option (Lp Int (Sum Unit Unit)):=bif decide (K1<(d0.length:Int)) then(aq d0 K1).bind λc_2=>(kF n ((c_2).toNat:Int)).bind λX5=>bif !X5 then(aq d0 K1).bind λc_3=>(qB n ((c_3).toNat:Int)).bind λX8=>bif !X8 then some (.br (.inl ())) else ar (inR .i64 (K1+1))<|some (.nx (K1+1)) else ar (inR .i64 (K1+1))<|some (.nx (K1+1)) else some (.br (.inr ()))
def pg (d0:Bs):Option Bool:=(bif decide ((d0.length:Int)<1) then some (true) else bif decide ((32:Int)<(d0.length:Int)) then some (true) else(aq d0 (0:Int)).bind λsf=>(kF n ((sf).toNat:Int)).bind λX2=>some (!X2):Option Bool).bind λG1=>bif G1 then some (false) else(av (rn n d0) n (0:Int)).bind λQ1=>(match Q1 with|.inl G2=>some (false)|.inr G3=>some (true))
theorem yb (d0:Bs) (z:Zs):oK ([]) [] 228 [S d0] (pg n d0) (λr y=>⟨.bool r,[],[]⟩):=
 fn 36 Tryz.func228 (jn (.reg 1) [] (λG1 _ _=>{L:=[(17,.bool G1)],ks:=[0]}) (bs [] 7 (rt []) (bs [] 12 (rt []) (ob (λsf X1=>ob (λ_ X3=>rt [si X1,C (vr n ((sf).toNat:Int)) X3 [] [] 0]))))) (kA λ_=>br [] (rt []) (lp [] {} (λK1 _ _=>{L:=[(3,.int .i64 K1)],ks:=[0]}) (λx z b=>match x with|.inl G2=>{e:=.ret,L:=[(2,.bool false)]}|.inr G3=>{e:=.exit 0}) (λK1=>br [] (ob (λc_2 X4=>ob (λ_ X6=>bs [si X4,C (vr n ((c_2).toNat:Int)) X6 [] [] 0] 29 (ob (λc_3 X7=>ob (λ_ X9=>br [si X7,C (ref01_digit_C n ((c_3).toNat:Int)) X9 [] [] 0] (rt []) (nd (λO1=>rt [wr 23 O1]))))) (nd (λO2=>rt [cd false,wr 23 O2]))))) (rt [])) (kS (kA λ_=>rt []) (kA λ_=>rt [])))))
abbrev zZ (rec_ref12_weight:bZ→Int→Option Int):Prop:=∀ (d0:bZ) (d1:Int) (z:Zs),OkC Tryz.prog (bg.facts d0 z) [] 152 [bg.ag d0 z,.int .i64 d1] (rec_ref12_weight d0 d1) (λr y=>⟨.int .i64 r,[],[]⟩)
def nB (n:Nat) (rec_ref12_weight:bZ→Int→Option Int) (d0:bZ) (d1:Int) (K1:Int×Int):Option (Lp (Int×Int) Int):=(bif decide (K1.2<(d0.fL.length:Int)) then some (decide (K1.1≤10000)) else some (false):Option Bool).bind λG2=>bif G2 then(aq d0.fL K1.2).bind λX1=>ar (inR .i64 (d1-1))<|(rec_ref12_weight X1 (d1-1)).bind λX3=>ar (inR .i64 (K1.1+X3))<|ar (inR .i64 (K1.2+1))<|some (.nx (K1.1+X3,K1.2+1)) else some (.br K1.1)
def pF (rec_ref12_weight:bZ→Int→Option Int) (d0:bZ) (d1:Int):Option Int:=(bif decide (d1=0) then some (true) else some (decide ((500:Int)<(d0.fL.length:Int))):Option Bool).bind λG1=>bif G1 then some (10000:Int) else ar (inR .i64 ((d0.be.length:Int)+ (d0.aE.length:Int)))<|ar (inR .i64 (((d0.be.length:Int)+ (d0.aE.length:Int))+ (d0.dQ.length:Int)))<|ar (inR .i64 ((1:Int)+ (min (((d0.be.length:Int)+ (d0.aE.length:Int))+ (d0.dQ.length:Int)) (10000:Int))))<|(av (nB n rec_ref12_weight d0 d1) n ((1:Int)+ (min (((d0.be.length:Int)+ (d0.aE.length:Int))+ (d0.dQ.length:Int)) (10000:Int)),(0:Int))).bind λG3=>some (G3)
theorem ze (rec_ref12_weight:bZ→Int→Option Int) (hrec_ref12_weight:zZ rec_ref12_weight) (d0:bZ) (d1:Int) (z:Zs):oK (bg.facts d0 z) [] 152 [bg.ag d0 z,.int .i64 d1] (pF n rec_ref12_weight d0 d1) (λr y=>⟨.int .i64 r,[],[]⟩):=
 fn 50 Tryz.func152 (jn (.reg 1) [bx 1] (λG1 _ _=>{L:=[(14,.bool G1)],ks:=[1,2]}) (bs [] 9 (rt []) (rt [K 1 5])) (kA λ_=>br [] (rt []) (nd (λO1=>nd (λO2=>nd (λO3=>lp [K 1 1,K 1 3,wr 21 O1,K 1 4,wr 25 O2,mn,wr 27 O3] {} (λK1 _ _=>{L:=[(5,.int .i64 K1.1),(6,.int .i64 K1.2)],ks:=[1,2]}) (λG3 _ _=>{e:=.exit 0,L:=[(5,.int .i64 G3)]}) (λK1=>jn (.reg 5) [] (λG2 _ _=>{L:=[(36,.bool G2)],ks:=[1,2,5,6]}) (bs [K 1 5] 33 (rt []) (rt [])) (kA λ_=>br [] (ob (λX1 X2=>nd (λO4=>ob (λ_ X4=>nd (λO5=>nd (λO6=>rt [K 1 5,I 0 2 bg X2,K 2 0,wr 46 O4,C (hrec_ref12_weight X1 (d1-1)) X4 [3] [] 4,wr 48 O5,wr 38 O6])))))) (rt []))) (kA λ_=>rt [])))))))
def dO (n:Nat):Nat→bZ→Int→Option Int|0=>λ_ _=>none|k+1=>pF n (dO n k)
def tC (d0:bZ) (d1:Int):Option Int:=dO n n d0 d1
theorem BP (d0:bZ) (d1:Int) (z:Zs):oK (bg.facts d0 z) [] 152 [bg.ag d0 z,.int .i64 d1] (tC n d0 d1) (λr y=>⟨.int .i64 r,[],[]⟩):=by
 have key: ∀ (k:Nat) (d0:bZ) (d1:Int) (z:Zs),oK (bg.facts d0 z) [] 152 [bg.ag d0 z,.int .i64 d1] (dO n k d0 d1) (λr y=>⟨.int .i64 r,[],[]⟩):=by
  intro k
  induction k with
  |zero=>intros;exact OkC.none
  |succ k ih=>exact ze n (dO n k) ih
 exact key n d0 d1 z
def mF (d0:bZ):Option Bool:=(tC n d0 (30:Int)).bind λX1=>some (decide ((3000:Int)<X1))
theorem wW (d0:bZ) (z:Zs):oK (bg.facts d0 z) [] 92 [bg.ag d0 z] (mF n d0) (λr y=>⟨.bool r,[],[]⟩):=
 fn 6 Tryz.func92 (ob (λ_ X2=>rt [bx 1,K 1 0,C (BP n d0 (30:Int)) X2 [0] [] 2]))
abbrev zX (rec_ref03_weight:bz→Int→Option Int):Prop:=∀ (d0:bz) (d1:Int) (z:Zs),OkC Tryz.prog (aO.facts d0 z) [] 153 [aO.ag d0 z,.int .i64 d1] (rec_ref03_weight d0 d1) (λr y=>⟨.int .i64 r,[],[]⟩)
def nv (n:Nat) (d0:bz) (K1:Int×Int):Option (Lp (Int×Int) Int):=bif decide (K1.2<(d0.bU.length:Int)) then(aq d0.bU K1.2).bind λX1=>ar (inR .i64 (K1.1+ (min (X1.length:Int) (10000:Int))))<|ar (inR .i64 (K1.2+1))<|some (.nx (K1.1+ (min (X1.length:Int) (10000:Int)),K1.2+1)) else some (.br K1.1)
def nw (n:Nat) (rec_ref03_weight:bz→Int→Option Int) (d0:bz) (d1:Int) (K2:Int×Int):Option (Lp (Int×Int) Int):=(bif decide (K2.2<(d0.bu.length:Int)) then some (decide (K2.1≤10000)) else some (false):Option Bool).bind λG3=>bif G3 then(aq d0.bu K2.2).bind λX3=>ar (inR .i64 (d1-1))<|(rec_ref03_weight X3 (d1-1)).bind λX5=>ar (inR .i64 (K2.1+X5))<|ar (inR .i64 (K2.2+1))<|some (.nx (K2.1+X5,K2.2+1)) else some (.br K2.1)
def pu (rec_ref03_weight:bz→Int→Option Int) (d0:bz) (d1:Int):Option Int:=(bif decide (d1=0) then some (true) else bif decide ((3000:Int)<(d0.bu.length:Int)) then some (true) else some (decide ((3000:Int)<(d0.bU.length:Int))):Option Bool).bind λG1=>bif G1 then some (10000:Int) else ar (inR .i64 ((1:Int)+ (min (d0.be.length:Int) (10000:Int))))<|(av (nv n d0) n ((1:Int)+ (min (d0.be.length:Int) (10000:Int)),(0:Int))).bind λG2=>(av (nw n rec_ref03_weight d0 d1) n (G2,(0:Int))).bind λG4=>some (G4)
theorem zc (rec_ref03_weight:bz→Int→Option Int) (hrec_ref03_weight:zX rec_ref03_weight) (d0:bz) (d1:Int) (z:Zs):oK (aO.facts d0 z) [] 153 [aO.ag d0 z,.int .i64 d1] (pu n rec_ref03_weight d0 d1) (λr y=>⟨.int .i64 r,[],[]⟩):=
 fn 65 Tryz.func153 (jn (.reg 1) [bx 2] (λG1 _ _=>{L:=[(21,.bool G1)],ks:=[1,2]}) (bs [] 10 (rt []) (bs [K 2 4] 16 (rt []) (rt [K 2 5]))) (kA λ_=>br [] (rt []) (nd (λO1=>lp [K 2 3,mn,wr 26 O1] {} (λK1 _ _=>{L:=[(5,.int .i64 K1.1),(6,.int .i64 K1.2)],ks:=[1,2]}) (λG2 _ _=>{e:=.exit 0,L:=[(5,.int .i64 G2)],ks:=[1,2]}) (λK1=>br [K 2 5] (ob (λ_ X2=>nd (λO2=>nd (λO3=>rt [K 2 5,I 1 3 tS X2,K 3 0,mn,wr 42 O2,wr 33 O3])))) (rt [])) (kA λ_=>lp [] {} (λK2 _ _=>{L:=[(5,.int .i64 K2.1),(7,.int .i64 K2.2)],ks:=[1,2]}) (λG4 _ _=>{e:=.exit 2,L:=[(5,.int .i64 G4)]}) (λK2=>jn (.reg 9) [] (λG3 _ _=>{L:=[(51,.bool G3)],ks:=[1,2,5,7]}) (bs [K 2 4] 48 (rt []) (rt [])) (kA λ_=>br [] (ob (λX3 X4=>nd (λO4=>ob (λ_ X6=>nd (λO5=>nd (λO6=>rt [K 2 4,I 0 4 aO X4,K 4 0,wr 61 O4,C (hrec_ref03_weight X3 (d1-1)) X6 [5,6] [] 7,wr 63 O5,wr 53 O6])))))) (rt []))) (kA λ_=>rt []))))))
def dN (n:Nat):Nat→bz→Int→Option Int|0=>λ_ _=>none|k+1=>pu n (dN n k)
def tv (d0:bz) (d1:Int):Option Int:=dN n n d0 d1
theorem BM (d0:bz) (d1:Int) (z:Zs):oK (aO.facts d0 z) [] 153 [aO.ag d0 z,.int .i64 d1] (tv n d0 d1) (λr y=>⟨.int .i64 r,[],[]⟩):=by
 have key: ∀ (k:Nat) (d0:bz) (d1:Int) (z:Zs),oK (aO.facts d0 z) [] 153 [aO.ag d0 z,.int .i64 d1] (dN n k d0 d1) (λr y=>⟨.int .i64 r,[],[]⟩):=by
  intro k
  induction k with
  |zero=>intros;exact OkC.none
  |succ k ih=>exact zc n (dN n k) ih
 exact key n d0 d1 z
def iO (d0:bz):Option Bool:=(tv n d0 (30:Int)).bind λX1=>some (decide ((5000:Int)<X1))
theorem mc (d0:bz) (z:Zs):oK (aO.facts d0 z) [] 94 [aO.ag d0 z] (iO n d0) (λr y=>⟨.bool r,[],[]⟩):=
 fn 6 Tryz.func94 (ob (λ_ X2=>rt [bx 2,K 2 0,C (BM n d0 (30:Int)) X2 [0,1] [] 3]))
open Go.Ck
abbrev AS (rec_ref03_Count:bz→Option Int):Prop:=∀ (d0:bz) (z:Zs),OkC Tryz.prog (aO.facts d0 z) [] 218 [aO.ag d0 z] (rec_ref03_Count d0) (λr y=>⟨.int .i64 r,[],[]⟩)
def vv (n:Nat) (rec_ref03_Count:bz→Option Int) (d0:bz) (K1:Int×Int):Option (Lp (Int×Int) Int):=bif decide (K1.2<(d0.bu.length:Int)) then(aq d0.bu K1.2).bind λX1=>(rec_ref03_Count X1).bind λX3=>ar (inR .i64 (K1.1+X3))<|ar (inR .i64 (K1.2+1))<|some (.nx (K1.1+X3,K1.2+1)) else some (.br K1.1)
def rp (rec_ref03_Count:bz→Option Int) (d0:bz):Option Int:=(av (vv n rec_ref03_Count d0) n ((1:Int),(0:Int))).bind λG1=>some (G1)
theorem An (rec_ref03_Count:bz→Option Int) (hrec_ref03_Count:AS rec_ref03_Count) (d0:bz) (z:Zs):oK (aO.facts d0 z) [] 218 [aO.ag d0 z] (rp n rec_ref03_Count d0) (λr y=>⟨.int .i64 r,[],[]⟩):=
 fn 21 Tryz.func218 (lp [bx 2] {} (λK1 _ _=>{L:=[(3,.int .i64 K1.1),(4,.int .i64 K1.2)],ks:=[1]}) (λG1 _ _=>{e:=.exit 0,L:=[(3,.int .i64 G1)]}) (λK1=>br [K 2 4] (ob (λX1 X2=>ob (λ_ X4=>nd (λO1=>nd (λO2=>rt [K 2 4,I 0 3 aO X2,K 3 0,C (hrec_ref03_Count X1) X4 [4,5] [] 6,wr 19 O1,wr 11 O2]))))) (rt [])) (kA λ_=>rt []))
def gA (n:Nat):Nat→bz→Option Int|0=>λ_=>none|k+1=>rp n (gA n k)
def vu (d0:bz):Option Int:=gA n n d0
theorem ref03_Count_C (d0:bz) (z:Zs):oK (aO.facts d0 z) [] 218 [aO.ag d0 z] (vu n d0) (λr y=>⟨.int .i64 r,[],[]⟩):=by
 have key: ∀ (k:Nat) (d0:bz) (z:Zs),oK (aO.facts d0 z) [] 218 [aO.ag d0 z] (gA n k d0) (λr y=>⟨.int .i64 r,[],[]⟩):=by
  intro k
  induction k with
  |zero=>intros;exact OkC.none
  |succ k ih=>exact An n (gA n k) ih
 exact key n d0 z
abbrev zV (rec_ref03_deeper:bz→Int→Option Bool):Prop:=∀ (d0:bz) (d1:Int) (z:Zs),OkC Tryz.prog (aO.facts d0 z) [] 216 [aO.ag d0 z,.int .i64 d1] (rec_ref03_deeper d0 d1) (λr y=>⟨.bool r,[],[]⟩)
def nq (n:Nat) (rec_ref03_deeper:bz→Int→Option Bool) (d0:bz) (d1:Int) (K1:Int):Option (Lp Int (Sum Unit Unit)):=bif decide (K1<(d0.bu.length:Int)) then(aq d0.bu K1).bind λX1=>ar (inR .i64 (d1-1))<|(rec_ref03_deeper X1 (d1-1)).bind λX3=>bif X3 then some (.br (.inl ())) else ar (inR .i64 (K1+1))<|some (.nx (K1+1)) else some (.br (.inr ()))
def pp (rec_ref03_deeper:bz→Int→Option Bool) (d0:bz) (d1:Int):Option Bool:=bif decide (d1=0) then some (true) else(av (nq n rec_ref03_deeper d0 d1) n (0:Int)).bind λQ2=>(match Q2 with|.inl G1=>some (true)|.inr G2=>some (false))
theorem za (rec_ref03_deeper:bz→Int→Option Bool) (hrec_ref03_deeper:zV rec_ref03_deeper) (d0:bz) (d1:Int) (z:Zs):oK (aO.facts d0 z) [] 216 [aO.ag d0 z,.int .i64 d1] (pp n rec_ref03_deeper d0 d1) (λr y=>⟨.bool r,[],[]⟩):=
 fn 23 Tryz.func216 (br [bx 2] (rt []) (lp [] {} (λK1 _ _=>{L:=[(5,.int .i64 K1)],ks:=[1,2]}) (λx z b=>match x with|.inl G1=>{e:=.ret,L:=[(4,.bool true)]}|.inr G2=>{e:=.exit 0}) (λK1=>br [K 2 4] (ob (λX1 X2=>nd (λO1=>ob (λ_ X4=>br [K 2 4,I 0 3 aO X2,K 3 0,wr 21 O1,C (hrec_ref03_deeper X1 (d1-1)) X4 [4,5] [] 6] (rt []) (nd (λO2=>rt [wr 14 O2])))))) (rt [])) (kS (kA λ_=>rt []) (kA λ_=>rt []))))
def dM (n:Nat):Nat→bz→Int→Option Bool|0=>λ_ _=>none|k+1=>pp n (dM n k)
def tu (d0:bz) (d1:Int):Option Bool:=dM n n d0 d1
theorem BL (d0:bz) (d1:Int) (z:Zs):oK (aO.facts d0 z) [] 216 [aO.ag d0 z,.int .i64 d1] (tu n d0 d1) (λr y=>⟨.bool r,[],[]⟩):=by
 have key: ∀ (k:Nat) (d0:bz) (d1:Int) (z:Zs),oK (aO.facts d0 z) [] 216 [aO.ag d0 z,.int .i64 d1] (dM n k d0 d1) (λr y=>⟨.bool r,[],[]⟩):=by
  intro k
  induction k with
  |zero=>intros;exact OkC.none
  |succ k ih=>exact za n (dM n k) ih
 exact key n d0 d1 z
def qC (n:Nat) (d0:bz):Option Bool:=(bif decide (d0.aA<0) then some (true) else some (decide ((5:Int)<d0.aA)):Option Bool).bind λG1=>bif G1 then some (false) else(bif d0.so then bif !(decide (d0.aA=1)) then some (true) else bif !(decide (d0.dV=0)) then bif !(decide (d0.aA=2)) then some (true) else bif !(decide (d0.be=[])) then some (!(decide (d0.aA=3))) else some (false) else bif !(decide (d0.be=[])) then some (!(decide (d0.aA=3))) else some (false) else bif !(decide (d0.dV=0)) then bif !(decide (d0.aA=2)) then some (true) else bif !(decide (d0.be=[])) then some (!(decide (d0.aA=3))) else some (false) else bif !(decide (d0.be=[])) then some (!(decide (d0.aA=3))) else some (false):Option Bool).bind λG2=>bif G2 then some (false) else(bif decide ((0:Int)<(d0.bu.length:Int)) then bif !(decide (d0.aA=4)) then some (!(decide (d0.aA=5))) else some (false) else some (false):Option Bool).bind λG3=>bif G3 then some (false) else bif decide (d0.aA=5) then some (decide ((d0.bU.length:Int)=(d0.bu.length:Int))) else some (decide ((d0.bU.length:Int)=0))
theorem ref03_plain_C (d0:bz) (z:Zs):oK (aO.facts d0 z) [] 258 [aO.ag d0 z] (qC n d0) (λr y=>⟨.bool r,[],[]⟩):=
 fn 66 Tryz.func258 (jn (.reg 1) [bx 2] (λG1 _ _=>{L:=[(10,.bool G1)],ks:=[1]}) (bs [K 2 0] 6 (rt []) (rt [K 2 0])) (kA λ_=>br [] (rt []) (jn (.reg 3) [] (λG2 _ _=>{L:=[(37,.bool G2)],ks:=[1]}) (bs [K 2 1] 13 (bs [K 2 0] 18 (rt []) (bs [K 2 2] 22 (bs [K 2 0] 28 (rt []) (bs [K 2 3] 32 (rt [K 2 0]) (rt []))) (bs [K 2 3] 32 (rt [K 2 0]) (rt [])))) (bs [K 2 2] 22 (bs [K 2 0] 28 (rt []) (bs [K 2 3] 32 (rt [K 2 0]) (rt []))) (bs [K 2 3] 32 (rt [K 2 0]) (rt [])))) (kA λ_=>br [] (rt []) (jn (.reg 5) [] (λG3 _ _=>{L:=[(51,.bool G3)],ks:=[1]}) (bs [K 2 4] 42 (bs [K 2 0] 47 (rt [K 2 0]) (rt [])) (rt [])) (kA λ_=>br [] (rt []) (br [K 2 0] (rt [K 2 5,K 2 4]) (rt [K 2 5]))))))))
abbrev AT (rec_ref03_wrong:bz→Option Int):Prop:=∀ (d0:bz) (z:Zs),OkC Tryz.prog (aO.facts d0 z) [] 217 [aO.ag d0 z] (rec_ref03_wrong d0) (λr y=>⟨.int .i64 r,[],[]⟩)
def pw (d0:bz) (K1:Int):Option (Lp Int (Sum Unit Unit)):=bif decide (K1<(d0.bU.length:Int)) then(aq d0.bU K1).bind λX5=>(gU n X5).bind λX7=>bif !X7 then some (.br (.inl ())) else ar (inR .i64 (K1+1))<|some (.nx (K1+1)) else some (.br (.inr ()))
def py (n:Nat) (d0:bz) (K2:Int) (K3:Int):Option (Lp Int (Sum Unit Unit)):=bif decide (K3<K2) then(aq d0.bU K3).bind λX9=>(aq d0.bU K2).bind λX11=>bif decide (X9=X11) then some (.br (.inl ())) else ar (inR .i64 (K3+1))<|some (.nx (K3+1)) else some (.br (.inr ()))
def px (d0:bz) (K2:Int):Option (Lp Int (Sum Unit Unit)):=bif decide (K2<(d0.bU.length:Int)) then(av (py n d0 K2) n (0:Int)).bind λQ4=>(match Q4 with|.inl G4=>some (.br (.inl ()))|.inr G5=>ar (inR .i64 (K2+1))<|some (.nx (K2+1))) else some (.br (.inr ()))
def pz (n:Nat) (rec_ref03_wrong:bz→Option Int) (d0:bz) (K4:Int):Option (Lp Int (Sum Int Unit)):=bif decide (K4<(d0.bu.length:Int)) then(aq d0.bu K4).bind λX14=>(rec_ref03_wrong X14).bind λX16=>bif !(decide (X16=0)) then some (.br (.inl X16)) else ar (inR .i64 (K4+1))<|some (.nx (K4+1)) else some (.br (.inr ()))
def rv (rec_ref03_wrong:bz→Option Int) (d0:bz):Option Int:=(qC n d0).bind λX1=>bif !X1 then some (2:Int) else(bif decide (d0.dV<(-9007199254740992)) then some (true) else some (decide ((9007199254740992:Int)<d0.dV)):Option Bool).bind λG1=>bif G1 then some (20:Int) else(gU n d0.be).bind λX3=>bif !X3 then some (10:Int) else(av (pw n d0) n (0:Int)).bind λQ2=>(match Q2 with|.inl G2=>some (10:Int)|.inr G3=>(av (px n d0) n (0:Int)).bind λQ3=>(match Q3 with|.inl G6=>some (41:Int)|.inr G7=>(av (pz n rec_ref03_wrong d0) n (0:Int)).bind λQ5=>(match Q5 with|.inl G8=>some (G8)|.inr G9=>some (0:Int))))
theorem Ap (rec_ref03_wrong:bz→Option Int) (hrec_ref03_wrong:AT rec_ref03_wrong) (d0:bz) (z:Zs):oK (aO.facts d0 z) [] 217 [aO.ag d0 z] (rv n rec_ref03_wrong d0) (λr y=>⟨.int .i64 r,[],[]⟩):=
 fn 76 Tryz.func217 (ob (λ_ X2=>br [bx 2,K 2 0,C (ref03_plain_C n d0) X2 [0,1] [] 3] (rt []) (jn (.reg 3) [] (λG1 _ _=>{L:=[(18,.bool G1)],ks:=[1]}) (bs [K 2 2] 14 (rt []) (rt [K 2 2])) (kA λ_=>br [] (rt []) (ob (λ_ X4=>br [K 2 3,C (jD n d0.be) X4 [] [] 3] (rt []) (lp [] {} (λK1 _ _=>{L:=[(3,.int .i64 K1)],ks:=[1]}) (λx z b=>match x with|.inl G2=>{e:=.ret,L:=[(2,.int .i64 10)]}|.inr G3=>{e:=.exit 0,ks:=[1]}) (λK1=>br [K 2 5] (ob (λX5 X6=>ob (λ_ X8=>br [K 2 5,I 1 3 tS X6,K 3 0,C (jD n X5) X8 [] [] 4] (rt []) (nd (λO1=>rt [wr 29 O1]))))) (rt [])) (kS (kA λ_=>rt []) (kA λ_=>lp [] {} (λK2 _ _=>{L:=[(4,.int .i64 K2)],ks:=[1]}) (λx z b=>match x with|.inl G6=>{e:=.ret,L:=[(2,.int .i64 41)]}|.inr G7=>{e:=.exit 2,ks:=[1]}) (λK2=>br [K 2 5] (lp [] {} (λK3 _ _=>{L:=[(5,.int .i64 K3)],ks:=[1,4]}) (λx z b=>match x with|.inl G4=>{e:=.ret,L:=[(2,.int .i64 41)]}|.inr G5=>{e:=.exit 4,ks:=[1,4]}) (λK3=>br [] (ob (λ_ X10=>ob (λ_ X12=>br [Ie 1 4 tS X10,Ie 1 6 tS X12,K 2 5,X 5,K 4 0,K 2 5,X 7,K 6 0] (rt []) (nd (λO2=>rt [wr 48 O2]))))) (rt [])) (kS (kA λ_=>rt []) (kA λ_=>nd (λO3=>rt [wr 43 O3])))) (rt [])) (kS (kA λ_=>rt []) (kA λ_=>lp [] {} (λK4 _ _=>{L:=[(6,.int .i64 K4)],ks:=[1]}) (λx z b=>match x with|.inl G8=>{e:=.ret,L:=[(2,.int .i64 G8)]}|.inr G9=>{e:=.exit 6}) (λK4=>br [K 2 4] (ob (λX14 X15=>ob (λ_ X17=>br [K 2 4,I 0 8 aO X15,K 8 0,C (hrec_ref03_wrong X14) X17 [9,10] [] 11] (rt []) (nd (λO4=>rt [wr 66 O4]))))) (rt [])) (kS (kA λ_=>rt []) (kA λ_=>rt [])))))))))))))
def eh (n:Nat):Nat→bz→Option Int|0=>λ_=>none|k+1=>rv n (eh n k)
def vw (d0:bz):Option Int:=eh n n d0
theorem ref03_wrong_C (d0:bz) (z:Zs):oK (aO.facts d0 z) [] 217 [aO.ag d0 z] (vw n d0) (λr y=>⟨.int .i64 r,[],[]⟩):=by
 have key: ∀ (k:Nat) (d0:bz) (z:Zs),oK (aO.facts d0 z) [] 217 [aO.ag d0 z] (eh n k d0) (λr y=>⟨.int .i64 r,[],[]⟩):=by
  intro k
  induction k with
  |zero=>intros;exact OkC.none
  |succ k ih=>exact Ap n (eh n k) ih
 exact key n d0 z
def gh (d0:bz):Option Int:=(tu n d0 (24:Int)).bind λX1=>bif X1 then some (30:Int) else(vw n d0).bind λX3=>bif !(decide (X3=0)) then some (X3) else(vu n d0).bind λX5=>bif decide ((4096:Int)<X5) then some (3:Int) else some (0:Int)
theorem dK (d0:bz) (z:Zs):oK (aO.facts d0 z) [] 171 [aO.ag d0 z] (gh n d0) (λr y=>⟨.int .i64 r,[],[]⟩):=
 fn 14 Tryz.func171 (ob (λ_ X2=>br [bx 2,K 2 0,C (BL n d0 (24:Int)) X2 [0,1] [] 3] (rt []) (ob (λ_ X4=>br [K 2 0,C (ref03_wrong_C n d0) X4 [0,1] [] 3] (rt []) (ob (λ_ X6=>br [K 2 0,C (ref03_Count_C n d0) X6 [0,1] [] 3] (rt []) (rt [])))))))
abbrev Hy_ref03_Same (rec_ref03_Same:bz→bz→Option Bool):Prop:=∀ (d0:bz) (d1:bz) (z:Zs),OkC Tryz.prog (aO.facts d0 z++aO.facts d1 (sh 2 z)) [] 169 [aO.ag d0 z,aO.ag d1 (sh 2 z)] (rec_ref03_Same d0 d1) (λr y=>⟨.bool r,[],[]⟩)
def rq (n:Nat) (d0:bz) (d1:bz) (K1:Int):Option (Lp Int (Sum Unit Unit)):=bif decide (K1<(d0.bU.length:Int)) then(aq d0.bU K1).bind λX1=>(aq d1.bU K1).bind λX3=>bif !(decide (X1=X3)) then some (.br (.inl ())) else ar (inR .i64 (K1+1))<|some (.nx (K1+1)) else some (.br (.inr ()))
def ru (n:Nat) (rec_ref03_Same:bz→bz→Option Bool) (d0:bz) (d1:bz) (K2:Int):Option (Lp Int (Sum Unit Unit)):=bif decide (K2<(d0.bu.length:Int)) then(aq d0.bu K2).bind λX5=>(aq d1.bu K2).bind λX7=>(rec_ref03_Same X5 X7).bind λX9=>bif !X9 then some (.br (.inl ())) else ar (inR .i64 (K2+1))<|some (.nx (K2+1)) else some (.br (.inr ()))
def tq (rec_ref03_Same:bz→bz→Option Bool) (d0:bz) (d1:bz):Option Bool:=(bif !(decide (d0.aA=d1.aA)) then some (true) else bif !(d0.so==d1.so) then some (true) else bif !(decide (d0.dV=d1.dV)) then some (true) else bif !(decide (d0.be=d1.be)) then some (true) else bif !(decide ((d0.bu.length:Int)=(d1.bu.length:Int))) then some (true) else some (!(decide ((d0.bU.length:Int)=(d1.bU.length:Int)))):Option Bool).bind λG1=>bif G1 then some (false) else(av (rq n d0 d1) n (0:Int)).bind λQ3=>(match Q3 with|.inl G2=>some (false)|.inr G3=>(av (ru n rec_ref03_Same d0 d1) n (0:Int)).bind λQ4=>(match Q4 with|.inl G4=>some (false)|.inr G5=>some (true)))
theorem BJ (rec_ref03_Same:bz→bz→Option Bool) (hrec_ref03_Same:Hy_ref03_Same rec_ref03_Same) (d0:bz) (d1:bz) (z:Zs):oK (aO.facts d0 z++aO.facts d1 (sh 2 z)) [] 169 [aO.ag d0 z,aO.ag d1 (sh 2 z)] (tq n rec_ref03_Same d0 d1) (λr y=>⟨.bool r,[],[]⟩):=
 fn 88 Tryz.func169 (jn (.reg 1) [bx 4,bx 5] (λG1 _ _=>{L:=[(50,.bool G1)],ks:=[2,3]}) (bs [K 4 0,K 5 0] 12 (rt []) (bs [K 4 1,K 5 1] 19 (rt []) (bs [K 4 2,K 5 2] 26 (rt []) (bs [K 4 3,K 5 3] 33 (rt []) (bs [K 4 4,K 5 4] 42 (rt []) (rt [K 4 5,K 5 5])))))) (kA λ_=>br [] (rt []) (lp [] {} (λK1 _ _=>{L:=[(5,.int .i64 K1)],ks:=[2,3]}) (λx z b=>match x with|.inl G2=>{e:=.ret,L:=[(4,.bool false)]}|.inr G3=>{e:=.exit 0,ks:=[2,3]}) (λK1=>br [K 4 5] (ob (λ_ X2=>ob (λ_ X4=>br [Ie 1 6 tS X2,Ie 3 8 tS X4,K 4 5,X 7,K 6 0,K 5 5,X 9,K 8 0] (rt []) (nd (λO1=>rt [wr 57 O1]))))) (rt [])) (kS (kA λ_=>rt []) (kA λ_=>lp [] {} (λK2 _ _=>{L:=[(6,.int .i64 K2)],ks:=[2,3]}) (λx z b=>match x with|.inl G4=>{e:=.ret,L:=[(4,.bool false)]}|.inr G5=>{e:=.exit 2}) (λK2=>br [K 4 4] (ob (λX5 X6=>ob (λX7 X8=>ob (λ_ X10=>br [Ie 0 10 aO X6,Ie 2 14 aO X8,K 4 4,X 11,K 10 0,K 5 4,X 15,K 14 0,C (hrec_ref03_Same X5 X7) X10 [12,13,16,17] [] 18] (rt []) (nd (λO2=>rt [wr 75 O2])))))) (rt [])) (kS (kA λ_=>rt []) (kA λ_=>rt [])))))))
def gi (n:Nat):Nat→bz→bz→Option Bool|0=>λ_ _=>none|k+1=>tq n (gi n k)
def pn (d0:bz) (d1:bz):Option Bool:=gi n n d0 d1
theorem tn (d0:bz) (d1:bz) (z:Zs):oK (aO.facts d0 z++aO.facts d1 (sh 2 z)) [] 169 [aO.ag d0 z,aO.ag d1 (sh 2 z)] (pn n d0 d1) (λr y=>⟨.bool r,[],[]⟩):=by
 have key: ∀ (k:Nat) (d0:bz) (d1:bz) (z:Zs),oK (aO.facts d0 z++aO.facts d1 (sh 2 z)) [] 169 [aO.ag d0 z,aO.ag d1 (sh 2 z)] (gi n k d0 d1) (λr y=>⟨.bool r,[],[]⟩):=by
  intro k
  induction k with
  |zero=>intros;exact OkC.none
  |succ k ih=>exact BJ n (gi n k) ih
 exact key n d0 d1 z
abbrev yL (rec_ref03_compare:bz→bz→Option Int):Prop:=∀ (d0:bz) (d1:bz) (z:Zs),OkC Tryz.prog (aO.facts d0 z++aO.facts d1 (sh 2 z)) [] 172 [aO.ag d0 z,aO.ag d1 (sh 2 z)] (rec_ref03_compare d0 d1) (λr y=>⟨.int .i64 r,[],[]⟩)
def lI (n:Nat) (rec_ref03_compare:bz→bz→Option Int) (d0:bz) (d1:bz) (K1:Int):Option (Lp Int (Sum Int Unit)):=(bif decide (K1<(d0.bu.length:Int)) then some (decide (K1<(d1.bu.length:Int))) else some (false):Option Bool).bind λG1=>bif G1 then(bif decide (d0.aA=5) then(aq d0.bU K1).bind λX1=>(aq d1.bU K1).bind λX3=>some (!(decide (X1=X3))) else some (false):Option Bool).bind λG2=>bif G2 then(aq d0.bU K1).bind λX5=>(aq d1.bU K1).bind λX7=>bif Op.bytesLess X5 X7 then some (.br (.inl (-1:Int))) else some (.br (.inl (1:Int))) else(aq d0.bu K1).bind λX9=>(aq d1.bu K1).bind λX11=>(rec_ref03_compare X9 X11).bind λX13=>bif !(decide (X13=0)) then some (.br (.inl X13)) else ar (inR .i64 (K1+1))<|some (.nx (K1+1)) else some (.br (.inr ()))
def np (rec_ref03_compare:bz→bz→Option Int) (d0:bz) (d1:bz):Option Int:=bif !(decide (d0.aA=d1.aA)) then bif decide (d0.aA<d1.aA) then some (-1:Int) else some (1:Int) else bif !(d0.so==d1.so) then bif d1.so then some (-1:Int) else some (1:Int) else bif !(decide (d0.dV=d1.dV)) then bif decide (d0.dV<d1.dV) then some (-1:Int) else some (1:Int) else bif !(decide (d0.be=d1.be)) then bif Op.bytesLess d0.be d1.be then some (-1:Int) else some (1:Int) else(av (lI n rec_ref03_compare d0 d1) n (0:Int)).bind λQ3=>(match Q3 with|.inl G3=>some (G3)|.inr G4=>bif !(decide ((d0.bu.length:Int)=(d1.bu.length:Int))) then bif decide ((d0.bu.length:Int)<(d1.bu.length:Int)) then some (-1:Int) else some (1:Int) else some (0:Int))
theorem yd (rec_ref03_compare:bz→bz→Option Int) (hrec_ref03_compare:yL rec_ref03_compare) (d0:bz) (d1:bz) (z:Zs):oK (aO.facts d0 z++aO.facts d1 (sh 2 z)) [] 172 [aO.ag d0 z,aO.ag d1 (sh 2 z)] (np n rec_ref03_compare d0 d1) (λr y=>⟨.int .i64 r,[],[]⟩):=
 fn 113 Tryz.func172 (br [bx 4,bx 5,K 4 0,K 5 0] (br [K 4 0,K 5 0] (rt []) (rt [])) (br [K 4 1,K 5 1] (br [K 5 1] (rt []) (rt [])) (br [K 4 2,K 5 2] (br [K 4 2,K 5 2] (rt []) (rt [])) (br [K 4 3,K 5 3] (br [K 4 3,K 5 3] (rt []) (rt [])) (lp [] {} (λK1 _ _=>{L:=[(5,.int .i64 K1)],ks:=[2,3]}) (λx z b=>match x with|.inl G3=>{e:=.ret,L:=[(4,.int .i64 G3)]}|.inr G4=>{e:=.exit 0,ks:=[2,3]}) (λK1=>jn (.reg 18) [] (λG1 _ _=>{L:=[(55,.bool G1)],ks:=[2,3,5]}) (bs [K 4 4] 49 (rt [K 5 4]) (rt [])) (kA λ_=>br [] (jn (.reg 20) [] (λG2 _ _=>{L:=[(73,.bool G2)],ks:=[2,3,5]}) (bh (.reg 20) [] (λB11=>ob (λ_ X2=>ob (λ_ X4=>rt [Ie 1 6 tS X2,Ie 3 8 tS X4,ch [] [(61,⟨cB B11⟩)],K 4 0,K 4 5,X 7,K 6 0,K 5 5,X 9,K 8 0]))) (λB11=>rt [ch [] [(61,⟨cB B11⟩)],K 4 0,cd true,cd true,cd true,cd true,cd true,cd true])) (kA λ_=>br [] (ob (λ_ X6=>ob (λ_ X8=>br [Ie 1 10 tS X6,Ie 3 12 tS X8,K 4 5,X 11,K 10 0,K 5 5,X 13,K 12 0] (rt []) (rt [])))) (ob (λX9 X10=>ob (λX11 X12=>ob (λ_ X14=>br [Ie 0 10 aO X10,Ie 2 14 aO X12,K 4 4,X 11,K 10 0,K 5 4,X 15,K 14 0,C (hrec_ref03_compare X9 X11) X14 [12,13,16,17] [] 18] (rt []) (nd (λO1=>rt [wr 57 O1])))))))) (rt []))) (kS (kA λ_=>rt []) (kA λ_=>br [K 4 4,K 5 4] (br [K 4 4,K 5 4] (rt []) (rt [])) (rt []))))))))
def dA (n:Nat):Nat→bz→bz→Option Int|0=>λ_ _=>none|k+1=>np n (dA n k)
def wU (d0:bz) (d1:bz):Option Int:=dA n n d0 d1
theorem Ao (d0:bz) (d1:bz) (z:Zs):oK (aO.facts d0 z++aO.facts d1 (sh 2 z)) [] 172 [aO.ag d0 z,aO.ag d1 (sh 2 z)] (wU n d0 d1) (λr y=>⟨.int .i64 r,[],[]⟩):=by
 have key: ∀ (k:Nat) (d0:bz) (d1:bz) (z:Zs),oK (aO.facts d0 z++aO.facts d1 (sh 2 z)) [] 172 [aO.ag d0 z,aO.ag d1 (sh 2 z)] (dA n k d0 d1) (λr y=>⟨.int .i64 r,[],[]⟩):=by
  intro k
  induction k with
  |zero=>intros;exact OkC.none
  |succ k ih=>exact yd n (dA n k) ih
 exact key n d0 d1 z
def xG (n:Nat) (d0:Bs):Option bz:=some (⟨(3:Int),(false),(0:Int),d0,([]:Cz),([]:List Bs)⟩:bz)
theorem ref03_Text_C (d0:Bs) (z:Zs):oK ([]) [] 247 [S d0] (xG n d0) (λr y=>⟨aO.ag r y,[],aO.facts r y⟩):=
 fn 5 Tryz.func247 (rt [al 0,Sn 0,nf 1 6 aw,nf 2 1 Dat.str] {is:=[1,2],rk:=[0]})
def yZ (n:Nat) (d0:Int):Option bz:=some (⟨(2:Int),(false),d0,([]:Bs),([]:Cz),([]:List Bs)⟩:bz)
theorem ref03_Num_C (d0:Int) (z:Zs):oK ([]) [] 248 [.int .i64 d0] (yZ n d0) (λr y=>⟨aO.ag r y,[],aO.facts r y⟩):=
 fn 5 Tryz.func248 (rt [al 0,Sn 0,nf 1 6 aw,nf 2 1 Dat.str] {is:=[1,2],rk:=[0]})
open Go.Ck
abbrev zW (rec_ref03_sorted:bz→Option bz):Prop:=∀ (d0:bz) (z:Zs),OkC Tryz.prog (aO.facts d0 z) [] 173 [aO.ag d0 z] (rec_ref03_sorted d0) (λr y=>⟨aO.ag r y,[],aO.facts r y⟩)
def nt (n:Nat) (d0:bz) (K1:Int×Cz×List Bs) (K2:Int):Option (Lp Int Int):=bif decide (K2<(K1.2.2.length:Int)) then(aq K1.2.2 K2).bind λX5=>(aq d0.bU K1.1).bind λX7=>bif Op.bytesLess X5 X7 then ar (inR .i64 (K2+1))<|some (.nx (K2+1)) else some (.br K2) else some (.br K2)
def ux (rec_ref03_sorted:bz→Option bz) (d0:bz) (K1:Int×Cz×List Bs):Option (Lp (Int×Cz×List Bs) (Cz×List Bs)):=bif decide (K1.1<(d0.bu.length:Int)) then(aq d0.bu K1.1).bind λX1=>(rec_ref03_sorted X1).bind λX3=>bif decide (d0.aA=4) then ar ((K1.2.1.length+1)*80≤140737488355328)<|ar (inR .i64 (K1.1+1))<|some (.nx (K1.1+1,K1.2.1++[X3],K1.2.2)) else(av (nt n d0 K1) n (0:Int)).bind λG1=>ar (0≤G1∧G1≤(K1.2.2.length:Int))<|ar ((([]:List Bs).length+ (K1.2.2.length-G1.toNat))*16≤140737488355328)<|ar (0≤G1∧G1≤(K1.2.1.length:Int))<|ar ((([]:Cz).length+ (K1.2.1.length-G1.toNat))*80≤140737488355328)<|(ar (0≤G1∧G1≤(K1.2.2.length:Int))<|(aq d0.bU K1.1).bind λX9=>ar (((K1.2.2.take G1.toNat).length+1)*16≤140737488355328)<|ar ((((K1.2.2.take G1.toNat)++[X9]).length+ (([]:List Bs)++(K1.2.2.take K1.2.2.length).drop G1.toNat).length)*16≤140737488355328)<|some (((K1.2.2.take G1.toNat)++[X9])++(([]:List Bs)++(K1.2.2.take K1.2.2.length).drop G1.toNat)):Option (List Bs)).bind λG2=>(ar (0≤G1∧G1≤(K1.2.1.length:Int))<|ar (((K1.2.1.take G1.toNat).length+1)*80≤140737488355328)<|ar ((((K1.2.1.take G1.toNat)++[X3]).length+ (([]:Cz)++(K1.2.1.take K1.2.1.length).drop G1.toNat).length)*80≤140737488355328)<|some (((K1.2.1.take G1.toNat)++[X3])++(([]:Cz)++(K1.2.1.take K1.2.1.length).drop G1.toNat)):Option Cz).bind λG3=>ar (inR .i64 (K1.1+1))<|some (.nx (K1.1+1,G3,G2)) else some (.br (K1.2.1,K1.2.2))
def pr (rec_ref03_sorted:bz→Option bz) (d0:bz):Option bz:=(av (ux n rec_ref03_sorted d0) n ((0:Int),([]:Cz),([]:List Bs))).bind λG4=>some (⟨d0.aA,(d0.so),d0.dV,d0.be,G4.1,G4.2⟩:bz)
set_option maxRecDepth 20000 in
theorem zb (n:Nat) (rec_ref03_sorted:bz→Option bz) (hrec_ref03_sorted:zW rec_ref03_sorted) (d0:bz) (z:Zs):oK (aO.facts d0 z) [] 173 [aO.ag d0 z] (pr n rec_ref03_sorted d0) (λr y=>⟨aO.ag r y,[],aO.facts r y⟩):=
 fn 97 Tryz.func173 (lp [bx 2,al 3,K 2 0,K 2 1,K 2 2,K 2 3,al 4,Sn 4,nr 5 6 184 aO,nr 7 8 9 tS] {is:=[6,8],js:=[5,7]} (λK1 z _=>{L:=[(4,.int .i64 K1.1)],ks:=[1,2,3],E:=[(10,rX 184 6 (z 2) K1.2.1),(12,rX 9 1 (z 3) K1.2.2)],x:=[5,7],m:=[(4,4,(z 2).sl K1.2.1.length),(4,5,(z 3).sl K1.2.2.length)],F:=[(9,qX 6 aw (z 2) K1.2.1),(11,qX 1 Dat.str (z 3) K1.2.2)]}) (λG4 z _=>{e:=.exit 0,ks:=[2,3],E:=[(48,rX 184 6 (z 2) G4.1),(50,rX 9 1 (z 3) G4.2)],x:=[5,7],m:=[(4,4,(z 2).sl G4.1.length),(4,5,(z 3).sl G4.2.length)],F:=[(47,qX 6 aw (z 2) G4.1),(49,qX 1 Dat.str (z 3) G4.2)]}) (λK1=>br [K 2 4] (ob (λX1 X2=>ob (λX3 X4=>br [K 2 4,I 0 13 aO X2,K 13 0,C (hrec_ref03_sorted X1) X4 [14,15] [] 16,al 18,Sn 18,K 2 0] (nd (λO1=>nd (λO2=>rt [O 4,O 18,ao 19,lk 19 20 aO [(X3,[16,17])],ap (ys:=[X3]) 10 9 20 21 aO O1,S1 4,wr 24 O2] {is:=[21,11],js:=[10,12]}))) (lp [] {} (λK2 _ _=>{L:=[(6,.int .i64 K2)],ks:=[1,2,3,4,5]}) (λG1 _ _=>{e:=.exit 2,L:=[(6,.int .i64 G1)],ks:=[1,2,3,4,5]}) (λK2=>bh (.reg 9) [] (λB3=>ob (λ_ X6=>ob (λ_ X8=>br [Re 12 11 19 tS X6,Ie 1 21 tS X8,ch [] [(45,⟨cB B3⟩)],O 4,O 4,X 20,Rd 12 19 0,K 2 5,X 22,K 21 0] (nd (λO3=>rt [wr 59 O3])) (rt [])))) (λB3=>rt [ch [] [(45,⟨cB B3⟩)],O 4,cd true,cd true,cd true,cd true,cd true,cd true,cd false])) (kA λ_=>nd (λO4=>nd (λO5=>nd (λO6=>nd (λO7=>jn (.reg 15) [O 4,rF 12 O4,nr 23 24 9 tS,aP 23 24 12 11 25 tS O4 O5,O 4,rF 10 O6,nr 26 27 184 aO,aP 26 27 10 9 28 aO O6 O7] (λG2 z _=>{ks:=[1,2,3,4,5,6,8],E:=[(38,rX 9 1 (z 1) G2)],x:=[12,23],m:=[(4,5,(z 1).sl G2.length)],F:=[(37,qX 1 Dat.str (z 1) G2)]}) (nd (λO8=>ob (λX9 X10=>nd (λO9=>nd (λO10=>rt [Ie 1 30 tS X10,ri 23 25 35,ch [4,12] [],lo (O 4),Tr 12 11 29 tS O8,K 2 5,X 31,K 30 0,th (ao 32) (lk 32 33 tS [(X9,[])]),ap (ys:=[X9]) 12 29 33 34 tS O9,ap 12 34 35 36 tS O10,S1 4] {is:=[36],js:=[12]}))))) (kA λ_=>jn (.reg 16) [] (λG3 z _=>{ks:=[1,2,3,4],E:=[(46,rX 184 6 (z 1) G3)],x:=[10,26],m:=[(4,4,(z 1).sl G3.length)],F:=[(45,qX 6 aw (z 1) G3)]}) (nd (λO11=>nd (λO12=>nd (λO13=>rt [ri 26 28 43,ch [4,10] [],lo (O 4),Tr 10 9 39 aO O11,O 18,th (ao 40) (lk 40 41 aO [(X3,[16,17])]),ap (ys:=[X3]) 10 39 41 42 aO O12,ap 10 42 43 44 aO O13,S1 4] {is:=[44],js:=[10]})))) (kA λ_=>nd (λO14=>rt [wr 24 O14] {is:=[45,37],js:=[46,38]})))))))))))) (rt [] {is:=[9,11],js:=[10,12]})) (kA λ_=>rt [O 4,ri 48 47 51,ri 50 49 52,Sn 3] {is:=[51,52],rk:=[3]}))
def eF (n:Nat):Nat→bz→Option bz|0=>λ_=>none|k+1=>pr n (eF n k)
def ot (d0:bz):Option bz:=eF n n d0
theorem pq (d0:bz) (z:Zs):oK (aO.facts d0 z) [] 173 [aO.ag d0 z] (ot n d0) (λr y=>⟨aO.ag r y,[],aO.facts r y⟩):=by
 have key: ∀ (k:Nat) (d0:bz) (z:Zs),oK (aO.facts d0 z) [] 173 [aO.ag d0 z] (eF n k d0) (λr y=>⟨aO.ag r y,[],aO.facts r y⟩):=by
  intro k
  induction k with
  |zero=>intros;exact OkC.none
  |succ k ih=>exact zb n (eF n k) ih
 exact key n d0 z
def tt (d0:bz):Option bz:=(gh n d0).bind λX1=>bif !(decide (X1=0)) then some (d0) else(ot n d0).bind λX3=>some (X3)
theorem BK (d0:bz) (z:Zs):oK (aO.facts d0 z) [] 227 [aO.ag d0 z] (tt n d0) (λr y=>⟨aO.ag r y,[],aO.facts r y⟩):=
 fn 9 Tryz.func227 (ob (λ_ X2=>br [bx 2,al 3,K 2 0,C (dK n d0) X2 [0,1] [] 4] (rt [K 2 0,Sn 3] {is:=[0,1],rk:=[3]}) (ob (λ_ X4=>rt [K 2 0,C (pq n d0) X4 [0,1] [] 4,Sn 3] {is:=[4,5],rk:=[3]}))))
open Go.Ck
def kg (d0:bz) (d1:bz):Option Bool:=(gh n d0).bind λX1=>bif decide (X1=0) then(gh n d1).bind λX3=>bif decide (X3=0) then(ot n d0).bind λX5=>(ot n d1).bind λX7=>(wU n X5 X7).bind λX9=>some (decide (X9=0)) else some (false) else some (false)
theorem ma (d0:bz) (d1:bz) (z:Zs):oK (aO.facts d0 z++aO.facts d1 (sh 2 z)) [] 116 [aO.ag d0 z,aO.ag d1 (sh 2 z)] (kg n d0 d1) (λr y=>⟨.bool r,[],[]⟩):=
 fn 21 Tryz.func116 (ob (λ_ X2=>bh (.reg 1) [bx 4,bx 5] (λB1=>ob (λ_ X4=>bh (.reg 1) [] (λB2=>ob (λX5 X6=>ob (λX7 X8=>ob (λ_ X10=>rt [ch [] [(8,⟨cB B1⟩),(13,⟨cB B2⟩)],K 4 0,C (dK n d0) X2 [0,1] [] 6,K 5 0,C (dK n d1) X4 [2,3] [] 6,K 4 0,C (pq n d0) X6 [0,1] [] 6,K 5 0,C (pq n d1) X8 [2,3] [] 8,C (Ao n X5 X7) X10 [6,7,8,9] [] 10])))) (λB2=>rt [ch [] [(8,⟨cB B1⟩),(13,⟨cB B2⟩)],K 4 0,C (dK n d0) X2 [0,1] [] 6,K 5 0,C (dK n d1) X4 [2,3] [] 6,cd true,cd true,cd true,cd true,cd true]))) (λB1=>rt [ch [] [(8,⟨cB B1⟩)],K 4 0,C (dK n d0) X2 [0,1] [] 6,cd true,cd true,cd true,cd true,cd true,cd true,cd true])))
open Go.Ck
def tm (n:Nat) (d0:Int):Option Bool:=bif decide ((-9007199254740992:Int)≤d0) then some (decide (d0≤9007199254740992)) else some (false)
theorem ref02_Fits_C (d0:Int) (z:Zs):oK ([]) [] 259 [.int .i64 d0] (tm n d0) (λr y=>⟨.bool r,[],[]⟩):=
 fn 9 Tryz.func259 (bs [] 5 (rt []) (rt []))
abbrev zU (rec_ref02_digits:Int→Option Bs):Prop:=∀ (d0:Int) (z:Zs),OkC Tryz.prog ([]) [] 260 [.int .i64 d0] (rec_ref02_digits d0) (λr y=>⟨S r,[],[]⟩)
def pk (n:Nat) (rec_ref02_digits:Int→Option Bs) (d0:Int):Option Bs:=bif decide (d0<10) then ar (inR .i64 ((48:Int)+d0))<|ar (0≤(IntKind.wrap .u8 ((48:Int)+d0))∧(IntKind.wrap .u8 ((48:Int)+d0))<256)<|some ([UInt8.ofNat (IntKind.wrap .u8 ((48:Int)+d0)).toNat]) else ar ((10:Int)≠0)<|ar (inR .i64 (d0.tdiv (10:Int)))<|(rec_ref02_digits (d0.tdiv (10:Int))).bind λX1=>ar ((10:Int)≠0)<|(rec_ref02_digits (d0.tmod (10:Int))).bind λX3=>ar (X1.length+X3.length≤9223372036854775807)<|some (X1++X3)
theorem yY (rec_ref02_digits:Int→Option Bs) (hrec_ref02_digits:zU rec_ref02_digits) (d0:Int) (z:Zs):oK ([]) [] 260 [.int .i64 d0] (pk n rec_ref02_digits d0) (λr y=>⟨S r,[],[]⟩):=
 fn 17 Tryz.func260 (br [] (nd (λO1=>nd (λO2=>rt [wr 6 O1,ao 0,cw 0 0 (congrArg (Value.int .u8) (uq O2)),lr 0 1 tU [(UInt8.ofNat (IntKind.wrap .u8 ((48:Int)+d0)).toNat,[])],sW 0 1 [UInt8.ofNat (IntKind.wrap .u8 ((48:Int)+d0)).toNat]]))) (nd (λO3=>nd (λO4=>ob (λ_ X2=>nd (λO5=>ob (λ_ X4=>nd (λO6=>rt [quo O3 O4,C (hrec_ref02_digits (d0.tdiv (10:Int))) X2 [] [] 0,rem O5,C (hrec_ref02_digits (d0.tmod (10:Int))) X4 [] [] 0,cat O6]))))))))
def gN (n:Nat):Nat→Int→Option Bs|0=>λ_=>none|k+1=>pk n (gN n k)
def oq (d0:Int):Option Bs:=gN n n d0
theorem vt (d0:Int) (z:Zs):oK ([]) [] 260 [.int .i64 d0] (oq n d0) (λr y=>⟨S r,[],[]⟩):=by
 have key: ∀ (k:Nat) (d0:Int) (z:Zs),oK ([]) [] 260 [.int .i64 d0] (gN n k d0) (λr y=>⟨S r,[],[]⟩):=by
  intro k
  induction k with
  |zero=>intros;exact OkC.none
  |succ k ih=>exact yY n (gN n k) ih
 exact key n d0 z
def jV (d0:Int):Option (Bs×Int):=(tm n d0).bind λX1=>bif !X1 then some (([]:Bs),(20:Int)) else bif decide (d0<0) then ar (inR .i64 (0-d0))<|(oq n (-d0)).bind λX3=>ar ([45].length+X3.length≤9223372036854775807)<|some ([45]++X3,(0:Int)) else(oq n d0).bind λX5=>some (X5,(0:Int))
theorem yc (d0:Int) (z:Zs):oK ([]) [] 219 [.int .i64 d0] (jV n d0) (λr y=>⟨.tuple #[S r.1,.int .i64 r.2],[],[]⟩):=
 fn 15 Tryz.func219 (ob (λ_ X2=>br [C (ref02_Fits_C n d0) X2 [] [] 0] (rt []) (br [] (nd (λO1=>ob (λX3 X4=>nd (λO2=>rt [sw 10 (congrArg (Value.int .i64) ((cD O1).trans (Int.zero_sub _))),C (vt n (-d0)) X4 [] [] 0,cat (l:=[45]) (m:=X3) O2])))) (ob (λ_ X6=>rt [C (vt n d0) X6 [] [] 0])))))
def jk (d0:Int):Option Int:=(jV n d0).bind λX1=>some (X1.1.length:Int)
theorem zH (d0:Int) (z:Zs):oK ([]) [] 175 [.int .i64 d0] (jk n d0) (λr y=>⟨.int .i64 r,[],[]⟩):=
 fn 12 Tryz.func175 (ob (λ_ X2=>rt [C (yc n d0) X2 [] [] 0]))
def lJ (d0:Bs):Option Bool:=bif decide ((d0.length:Int)≤64) then(gU n d0).bind λX1=>some (X1) else some (false)
theorem tw (d0:Bs) (z:Zs):oK ([]) [] 215 [S d0] (lJ n d0) (λr y=>⟨.bool r,[],[]⟩):=
 fn 10 Tryz.func215 (bs [] 6 (ob (λ_ X2=>rt [C (jD n d0) X2 [] [] 0])) (rt []))
abbrev zY (rec_ref05_digits:Int→Option Bs):Prop:=∀ (d0:Int) (z:Zs),OkC Tryz.prog ([]) [] 279 [.int .i64 d0] (rec_ref05_digits d0) (λr y=>⟨S r,[],[]⟩)
def kG (n:Nat) (rec_ref05_digits:Int→Option Bs) (d0:Int):Option Bs:=bif decide (d0<0) then ar (inR .i64 (0-d0))<|(rec_ref05_digits (-d0)).bind λX1=>ar ([45].length+X1.length≤9223372036854775807)<|some ([45]++X1) else bif decide (d0<10) then ar (inR .i64 ((48:Int)+d0))<|ar (0≤(IntKind.wrap .u8 ((48:Int)+d0))∧(IntKind.wrap .u8 ((48:Int)+d0))<256)<|some ([UInt8.ofNat (IntKind.wrap .u8 ((48:Int)+d0)).toNat]) else ar ((10:Int)≠0)<|ar (inR .i64 (d0.tdiv (10:Int)))<|(rec_ref05_digits (d0.tdiv (10:Int))).bind λX3=>ar ((10:Int)≠0)<|ar (inR .i64 ((48:Int)+ (d0.tmod (10:Int))))<|ar (0≤(IntKind.wrap .u8 ((48:Int)+ (d0.tmod (10:Int))))∧(IntKind.wrap .u8 ((48:Int)+ (d0.tmod (10:Int))))<256)<|ar (X3.length+ [UInt8.ofNat (IntKind.wrap .u8 ((48:Int)+ (d0.tmod (10:Int)))).toNat].length≤9223372036854775807)<|some (X3++[UInt8.ofNat (IntKind.wrap .u8 ((48:Int)+ (d0.tmod (10:Int)))).toNat])
theorem zd (rec_ref05_digits:Int→Option Bs) (hrec_ref05_digits:zY rec_ref05_digits) (d0:Int) (z:Zs):oK ([]) [] 279 [.int .i64 d0] (kG n rec_ref05_digits d0) (λr y=>⟨S r,[],[]⟩):=
 fn 26 Tryz.func279 (br [] (nd (λO1=>ob (λX1 X2=>nd (λO2=>rt [sw 6 (congrArg (Value.int .i64) ((cD O1).trans (Int.zero_sub _))),C (hrec_ref05_digits (-d0)) X2 [] [] 0,cat (l:=[45]) (m:=X1) O2])))) (br [] (nd (λO3=>nd (λO4=>rt [wr 12 O3,ao 0,cw 0 0 (congrArg (Value.int .u8) (uq O4)),lr 0 1 tU [(UInt8.ofNat (IntKind.wrap .u8 ((48:Int)+d0)).toNat,[])],sW 0 1 [UInt8.ofNat (IntKind.wrap .u8 ((48:Int)+d0)).toNat]]))) (nd (λO5=>nd (λO6=>ob (λ_ X4=>nd (λO7=>nd (λO8=>nd (λO9=>nd (λO10=>rt [ch [] [(21,⟨congrArg (Value.int .i64) (cD O8)⟩)],quo O5 O6,C (hrec_ref05_digits (d0.tdiv (10:Int))) X4 [] [] 0,rem O7,th (th (ao 0) (cw 0 0 (congrArg (Value.int .u8) (uq O9)))) (lr 0 1 tU [(UInt8.ofNat (IntKind.wrap .u8 ((48:Int)+ (d0.tmod (10:Int)))).toNat,[])]),lo (sW 0 1 [UInt8.ofNat (IntKind.wrap .u8 ((48:Int)+ (d0.tmod (10:Int)))).toNat]),cat O10]))))))))))
def eG (n:Nat):Nat→Int→Option Bs|0=>λ_=>none|k+1=>kG n (eG n k)
def ou (d0:Int):Option Bs:=eG n n d0
theorem BN (d0:Int) (z:Zs):oK ([]) [] 279 [.int .i64 d0] (ou n d0) (λr y=>⟨S r,[],[]⟩):=by
 have key: ∀ (k:Nat) (d0:Int) (z:Zs),oK ([]) [] 279 [.int .i64 d0] (eG n k d0) (λr y=>⟨S r,[],[]⟩):=by
  intro k
  induction k with
  |zero=>intros;exact OkC.none
  |succ k ih=>exact zd n (eG n k) ih
 exact key n d0 z
def sy (n:Nat) (d0:Int):Option Int:=bif decide (d0<10) then ar (inR .i64 ((48:Int)+d0))<|some (IntKind.wrap .u8 ((48:Int)+d0)) else ar (inR .i64 ((97:Int)+d0))<|ar (inR .i64 (((97:Int)+d0)-10))<|some (IntKind.wrap .u8 (((97:Int)+d0)-10))
theorem zG (d0:Int) (z:Zs):oK ([]) [] 282 [.int .i64 d0] (sy n d0) (λr y=>⟨.int .u8 r,[],[]⟩):=
 fn 12 Tryz.func282 (br [] (nd (λO1=>rt [wr 6 O1])) (nd (λO2=>nd (λO3=>rt [wr 9 O2,wr 10 O3]))))
def pi (d0:Bs) (K1:Bs×Int):Option (Lp (Bs×Int) Bs):=bif decide (K1.2<(d0.length:Int)) then(aq d0 K1.2).bind λsf=>(bif decide (((sf).toNat:Int)=34) then some (true) else some (decide (((sf).toNat:Int)=92)):Option Bool).bind λG1=>bif G1 then ar ((K1.1.length+2)*1≤140737488355328)<|ar (inR .i64 (K1.2+1))<|some (.nx (K1.1++[(92:UInt8),sf],K1.2+1)) else bif decide (((sf).toNat:Int)=8) then ar ((K1.1.length+2)*1≤140737488355328)<|ar (inR .i64 (K1.2+1))<|some (.nx (K1.1++[(92:UInt8),(98:UInt8)],K1.2+1)) else bif decide (((sf).toNat:Int)=9) then ar ((K1.1.length+2)*1≤140737488355328)<|ar (inR .i64 (K1.2+1))<|some (.nx (K1.1++[(92:UInt8),(116:UInt8)],K1.2+1)) else bif decide (((sf).toNat:Int)=10) then ar ((K1.1.length+2)*1≤140737488355328)<|ar (inR .i64 (K1.2+1))<|some (.nx (K1.1++[(92:UInt8),(110:UInt8)],K1.2+1)) else bif decide (((sf).toNat:Int)=12) then ar ((K1.1.length+2)*1≤140737488355328)<|ar (inR .i64 (K1.2+1))<|some (.nx (K1.1++[(92:UInt8),(102:UInt8)],K1.2+1)) else bif decide (((sf).toNat:Int)=13) then ar ((K1.1.length+2)*1≤140737488355328)<|ar (inR .i64 (K1.2+1))<|some (.nx (K1.1++[(92:UInt8),(114:UInt8)],K1.2+1)) else bif decide (((sf).toNat:Int)<32) then ar ((16:Int)≠0)<|ar (inR .i64 (((sf).toNat:Int).tdiv (16:Int)))<|(sy n (((sf).toNat:Int).tdiv (16:Int))).bind λX4=>ar ((16:Int)≠0)<|(sy n (((sf).toNat:Int).tmod (16:Int))).bind λX6=>ar (0≤X4∧X4<256)<|ar (0≤X6∧X6<256)<|ar ((K1.1.length+6)*1≤140737488355328)<|ar (inR .i64 (K1.2+1))<|some (.nx (K1.1++[(92:UInt8),(117:UInt8),(48:UInt8),(48:UInt8),UInt8.ofNat (X4).toNat,UInt8.ofNat (X6).toNat],K1.2+1)) else ar ((K1.1.length+1)*1≤140737488355328)<|ar (inR .i64 (K1.2+1))<|some (.nx (K1.1++[sf],K1.2+1)) else some (.br K1.1)
def vq (d0:Bs):Option (Bs×Int):=(gU n d0).bind λX1=>bif !X1 then some (([]:Bs),(10:Int)) else(av (pi n d0) n ([(34:UInt8)],(0:Int))).bind λG2=>ar ((G2.length+1)*1≤140737488355328)<|some (G2++[(34:UInt8)],(0:Int))
set_option maxRecDepth 20000 in
theorem ref01_Quote_C (n:Nat) (d0:Bs) (z:Zs):oK ([]) [] 280 [S d0] (vq n d0) (λr y=>⟨.tuple #[S r.1,.int .i64 r.2],[],[]⟩):=
 fn 83 Tryz.func280 (ob (λ_ X2=>br [C (jD n d0) X2 [] [] 0] (rt []) (lp [ao 0,lr 0 1 tU [((34:UInt8),[])]] {is:=[1],js:=[0]} (λK1 z _=>{L:=[(4,(z 1).sl K1.1.length),(5,.int .i64 K1.2)],ks:=[0],E:=[(3,rX 5 1 (z 1) K1.1)],x:=[0],F:=[(2,qX 1 embB (z 1) K1.1)]}) (λG2 z _=>{e:=.exit 0,L:=[(4,(z 1).sl G2.length)],E:=[(8,rX 5 1 (z 1) G2)],x:=[0],F:=[(7,qX 1 embB (z 1) G2)]}) (λK1=>br [] (ob (λsf X3=>jn (.reg 9) [si X3] (λG1 _ _=>{L:=[(24,.bool G1)],ks:=[0,4,5,6]}) (bs [] 27 (rt []) (rt [])) (kA λ_=>br [] (nd (λO1=>nd (λO2=>rt [ao 4,lk 4 5 tU [((92:UInt8),[]),(sf,[])],ap (ys:=[(92:UInt8),sf]) 3 2 5 6 tU O1,wr 16 O2] {is:=[6],js:=[3]}))) (br [] (nd (λO3=>nd (λO4=>rt [ao 4,lk 4 5 tU [((92:UInt8),[]),((98:UInt8),[])],ap (ys:=[(92:UInt8),(98:UInt8)]) 3 2 5 6 tU O3,wr 16 O4] {is:=[6],js:=[3]}))) (br [] (nd (λO5=>nd (λO6=>rt [ao 4,lk 4 5 tU [((92:UInt8),[]),((116:UInt8),[])],ap (ys:=[(92:UInt8),(116:UInt8)]) 3 2 5 6 tU O5,wr 16 O6] {is:=[6],js:=[3]}))) (br [] (nd (λO7=>nd (λO8=>rt [ao 4,lk 4 5 tU [((92:UInt8),[]),((110:UInt8),[])],ap (ys:=[(92:UInt8),(110:UInt8)]) 3 2 5 6 tU O7,wr 16 O8] {is:=[6],js:=[3]}))) (br [] (nd (λO9=>nd (λO10=>rt [ao 4,lk 4 5 tU [((92:UInt8),[]),((102:UInt8),[])],ap (ys:=[(92:UInt8),(102:UInt8)]) 3 2 5 6 tU O9,wr 16 O10] {is:=[6],js:=[3]}))) (br [] (nd (λO11=>nd (λO12=>rt [ao 4,lk 4 5 tU [((92:UInt8),[]),((114:UInt8),[])],ap (ys:=[(92:UInt8),(114:UInt8)]) 3 2 5 6 tU O11,wr 16 O12] {is:=[6],js:=[3]}))) (br [] (nd (λO13=>nd (λO14=>ob (λX4 X5=>nd (λO15=>ob (λX6 X7=>nd (λO16=>nd (λO17=>nd (λO18=>nd (λO19=>rt [sw 70 (congrArg (Value.int .i64) (wG .i64 (by simp) sf)),quo O13 O14,C (zG n (((sf).toNat:Int).tdiv (16:Int))) X5 [] [] 4,sw 74 (congrArg (Value.int .i64) (wG .i64 (by simp) sf)),rem O15,C (zG n (((sf).toNat:Int).tmod (16:Int))) X7 [] [] 4,ao 4,cw 4 4 (congrArg (Value.int .u8) (uq O16)),cw 4 5 (congrArg (Value.int .u8) (uq O17)),lk 4 5 tU [((92:UInt8),[]),((117:UInt8),[]),((48:UInt8),[]),((48:UInt8),[]),(UInt8.ofNat (X4).toNat,[]),(UInt8.ofNat (X6).toNat,[])],ap (ys:=[(92:UInt8),(117:UInt8),(48:UInt8),(48:UInt8),UInt8.ofNat (X4).toNat,UInt8.ofNat (X6).toNat]) 3 2 5 6 tU O18,wr 16 O19] {is:=[6],js:=[3]})))))))))) (nd (λO20=>nd (λO21=>rt [ao 4,lk 4 5 tU [(sf,[])],ap (ys:=[sf]) 3 2 5 6 tU O20,wr 16 O21] {is:=[6],js:=[3]})))))))))))) (rt [] {is:=[2],js:=[3]})) (kA λG2=>nd (λO22=>rt [ao 9,lk 9 10 tU [((34:UInt8),[])],ap (ys:=[(34:UInt8)]) 8 7 10 11 tU O22,sW 8 11 (G2++[(34:UInt8)])])))))
def kH (d0:Bs):Option Bs:=(vq n d0).bind λX1=>some (X1.1)
theorem vy (d0:Bs) (z:Zs):oK ([]) [] 265 [S d0] (kH n d0) (λr y=>⟨S r,[],[]⟩):=
 fn 11 Tryz.func265 (ob (λ_ X2=>rt [C (ref01_Quote_C n d0) X2 [] [] 0]))
def tz (d0:bz):Option Bs:=bif decide (d0.aA=1) then bif d0.so then some ([116,114,117,101]) else some ([102,97,108,115,101]) else bif decide (d0.aA=2) then(ou n d0.dV).bind λX1=>some (X1) else bif decide (d0.aA=3) then(kH n d0.be).bind λX3=>some (X3) else some ([110,117,108,108])
theorem ref05_word_C (d0:bz) (z:Zs):oK (aO.facts d0 z) [] 264 [aO.ag d0 z] (tz n d0) (λr y=>⟨S r,[],[]⟩):=
 fn 19 Tryz.func264 (br [bx 2,K 2 0] (br [K 2 1] (rt []) (rt [])) (br [] (ob (λ_ X2=>rt [K 2 2,C (BN n d0.dV) X2 [] [] 3])) (br [] (ob (λ_ X4=>rt [K 2 3,C (vy n d0.be) X4 [] [] 3])) (rt []))))
abbrev AU (rec_ref05_short:bz→Option Bs):Prop:=∀ (d0:bz) (z:Zs),OkC Tryz.prog (aO.facts d0 z) [] 226 [aO.ag d0 z] (rec_ref05_short d0) (λr y=>⟨S r,[],[]⟩)
def vz (rec_ref05_short:bz→Option Bs) (d0:bz) (K1:Bs×Int):Option (Lp (Bs×Int) Bs):=bif decide (K1.2<(d0.bu.length:Int)) then(bif decide ((0:Int)<K1.2) then ar (K1.1.length+ [44].length≤9223372036854775807)<|some (K1.1++[44]) else some (K1.1):Option Bs).bind λG3=>(bif decide (d0.aA=5) then(aq d0.bU K1.2).bind λX3=>(kH n X3).bind λX5=>ar (G3.length+X5.length≤9223372036854775807)<|ar ((G3++X5).length+ [58].length≤9223372036854775807)<|some ((G3++X5)++[58]) else some (G3):Option Bs).bind λG4=>(aq d0.bu K1.2).bind λX7=>(rec_ref05_short X7).bind λX9=>ar (G4.length+X9.length≤9223372036854775807)<|ar (inR .i64 (K1.2+1))<|some (.nx (G4++X9,K1.2+1)) else some (.br K1.1)
def rx (rec_ref05_short:bz→Option Bs) (d0:bz):Option Bs:=(bif !(decide (d0.aA=4)) then some (!(decide (d0.aA=5))) else some (false):Option Bool).bind λG1=>bif G1 then(tz n d0).bind λX1=>some (X1) else(bif decide (d0.aA=5) then some ([123]) else some ([91]):Option Bs).bind λG2=>(av (vz n rec_ref05_short d0) n (G2,(0:Int))).bind λG5=>bif decide (d0.aA=5) then ar (G5.length+ [125].length≤9223372036854775807)<|some (G5++[125]) else ar (G5.length+ [93].length≤9223372036854775807)<|some (G5++[93])
theorem Ar (rec_ref05_short:bz→Option Bs) (hrec_ref05_short:AU rec_ref05_short) (d0:bz) (z:Zs):oK (aO.facts d0 z) [] 226 [aO.ag d0 z] (rx n rec_ref05_short d0) (λr y=>⟨S r,[],[]⟩):=
 fn 56 Tryz.func226 (jn (.reg 1) [bx 2] (λG1 _ _=>{L:=[(12,.bool G1)],ks:=[1]}) (bs [K 2 0] 8 (rt [K 2 0]) (rt [])) (kA λ_=>br [] (ob (λ_ X2=>rt [K 2 0,C (ref05_word_C n d0) X2 [0,1] [] 3])) (jn .no [K 2 0] (λG2 _ _=>{L:=[(3,S G2)],ks:=[1]}) (br [] (rt []) (rt [])) (kA λ_=>lp [] {} (λK1 _ _=>{L:=[(3,S K1.1),(4,.int .i64 K1.2)],ks:=[1]}) (λG5 _ _=>{e:=.exit 0,L:=[(3,S G5)],ks:=[1]}) (λK1=>br [K 2 4] (jn .no [] (λG3 _ _=>{L:=[(3,S G3)],ks:=[1,4]}) (br [] (nd (λO1=>rt [cat (l:=K1.1) (m:=[44]) O1])) (rt [])) (kA λG3=>jn .no [K 2 0] (λG4 _ _=>{L:=[(3,S G4)],ks:=[1,4]}) (br [] (ob (λX3 X4=>ob (λX5 X6=>nd (λO2=>nd (λO3=>rt [K 2 5,I 1 3 tS X4,K 3 0,C (vy n X3) X6 [] [] 4,cat O2,cat (l:=G3++X5) (m:=[58]) O3]))))) (rt [])) (kA λ_=>ob (λX7 X8=>ob (λ_ X10=>nd (λO4=>nd (λO5=>rt [K 2 4,I 0 4 aO X8,K 4 0,C (hrec_ref05_short X7) X10 [5,6] [] 7,cat O4,wr 24 O5]))))))) (rt [])) (kA λG5=>br [K 2 0] (nd (λO6=>rt [cat (l:=G5) (m:=[125]) O6])) (nd (λO7=>rt [cat (l:=G5) (m:=[93]) O7])))))))
def gB (n:Nat):Nat→bz→Option Bs|0=>λ_=>none|k+1=>rx n (gB n k)
def zI (d0:bz):Option Bs:=gB n n d0
theorem ref05_short_C (d0:bz) (z:Zs):oK (aO.facts d0 z) [] 226 [aO.ag d0 z] (zI n d0) (λr y=>⟨S r,[],[]⟩):=by
 have key: ∀ (k:Nat) (d0:bz) (z:Zs),oK (aO.facts d0 z) [] 226 [aO.ag d0 z] (gB n k d0) (λr y=>⟨S r,[],[]⟩):=by
  intro k
  induction k with
  |zero=>intros;exact OkC.none
  |succ k ih=>exact Ar n (gB n k) ih
 exact key n d0 z
def me (n:Nat) (d0:Bs):Option (Bs×Int):=bif decide ((32768:Int)<(d0.length:Int)) then some (([]:Bs),(3:Int)) else some (d0,(0:Int))
theorem Aq (d0:Bs) (z:Zs):oK ([]) [] 225 [S d0] (me n d0) (λr y=>⟨.tuple #[S r.1,.int .i64 r.2],[],[]⟩):=
 fn 8 Tryz.func225 (br [] (rt []) (rt []))
def vx (d0:bz):Option (Bs×Int):=(gh n d0).bind λX1=>bif !(decide (X1=0)) then some (([]:Bs),X1) else(tt n d0).bind λX3=>(zI n X3).bind λX5=>(me n X5).bind λX7=>some (X7.1,X7.2)
theorem ref05_Print_C (d0:bz) (z:Zs):oK (aO.facts d0 z) [] 185 [aO.ag d0 z] (vx n d0) (λr y=>⟨.tuple #[S r.1,.int .i64 r.2],[],[]⟩):=
 fn 16 Tryz.func185 (ob (λ_ X2=>br [bx 2,K 2 0,C (dK n d0) X2 [0,1] [] 3] (rt []) (ob (λX3 X4=>ob (λX5 X6=>ob (λ_ X8=>rt [K 2 0,C (BK n d0) X4 [0,1] [] 3,C (ref05_short_C n X3) X6 [3,4] [] 5,C (Aq n X5) X8 [] [] 5]))))))
def wv (d0:bz):Option Int:=(vx n d0).bind λX1=>some (X1.1.length:Int)
theorem ref05_Len_C (d0:bz) (z:Zs):oK (aO.facts d0 z) [] 121 [aO.ag d0 z] (wv n d0) (λr y=>⟨.int .i64 r,[],[]⟩):=
 fn 12 Tryz.func121 (ob (λ_ X2=>rt [bx 2,K 2 0,C (ref05_Print_C n d0) X2 [0,1] [] 3]))
open Go.Ck
def gV (n:Nat) (d0:Bs):Option (List uW×Int):=bif decide (d0=[68,105,115,107]) then some ([(⟨[75,105,110,100],(3:Int),(true)⟩:uW),(⟨[83,105,122,101],(2:Int),(false)⟩:uW),(⟨[84,97,103,115],(4:Int),(false)⟩:uW)],(0:Int)) else bif decide (d0=[78,101,116]) then some ([(⟨[76,97,98,101,108],(3:Int),(false)⟩:uW),(⟨[82,97,110,103,101],(3:Int),(true)⟩:uW)],(0:Int)) else bif decide (d0=[78,111,100,101]) then some ([(⟨[67,111,117,110,116],(2:Int),(false)⟩:uW),(⟨[68,105,115,107],(3:Int),(false)⟩:uW),(⟨[73,109,97,103,101],(3:Int),(true)⟩:uW),(⟨[78,101,116],(3:Int),(true)⟩:uW)],(0:Int)) else bif decide (d0=[82,117,108,101]) then some ([(⟨[78,111,100,101],(3:Int),(false)⟩:uW),(⟨[80,111,114,116],(2:Int),(true)⟩:uW)],(0:Int)) else some (([]:List uW),(90:Int))
theorem jE (d0:Bs) (z:Zs):oK ([]) [] 114 [S d0] (gV n d0) (λr y=>⟨.tuple #[wX (y 0) r.1,.int .i64 r.2],[],[sX 3 sV (y 0) r.1]⟩):=
 fn 28 Tryz.func114 (br [] (rt [ao 0,lk 0 1 wP [((⟨[75,105,110,100],(3:Int),(true)⟩:uW),[]),((⟨[83,105,122,101],(2:Int),(false)⟩:uW),[]),((⟨[84,97,103,115],(4:Int),(false)⟩:uW),[])]] {is:=[1]}) (br [] (rt [ao 0,lk 0 1 wP [((⟨[76,97,98,101,108],(3:Int),(false)⟩:uW),[]),((⟨[82,97,110,103,101],(3:Int),(true)⟩:uW),[])]] {is:=[1]}) (br [] (rt [ao 0,lk 0 1 wP [((⟨[67,111,117,110,116],(2:Int),(false)⟩:uW),[]),((⟨[68,105,115,107],(3:Int),(false)⟩:uW),[]),((⟨[73,109,97,103,101],(3:Int),(true)⟩:uW),[]),((⟨[78,101,116],(3:Int),(true)⟩:uW),[])]] {is:=[1]}) (br [] (rt [ao 0,lk 0 1 wP [((⟨[78,111,100,101],(3:Int),(false)⟩:uW),[]),((⟨[80,111,114,116],(2:Int),(true)⟩:uW),[])]] {is:=[1]}) (rt [nf 0 3 sV] {is:=[0]})))))
def wV (n:Nat) (d1:Bs) (X1:List uW×Int) (K1:Int×Bs×Int×Bool):Option (Lp (Int×Bs×Int×Bool) (Sum (Bs×Int×Bool) (Bs×Int×Bool))):=bif decide (K1.1<(X1.1.length:Int)) then(aq X1.1 K1.1).bind λX3=>bif decide (X3.aE=d1) then(aq X1.1 K1.1).bind λX5=>some (.br (.inl (X5.aE,X5.aA,(X5.xV)))) else ar (inR .i64 (K1.1+1))<|some (.nx (K1.1+1,K1.2.1,K1.2.2.1,(K1.2.2.2))) else some (.br (.inr (K1.2.1,K1.2.2.1,(K1.2.2.2))))
def pC (d0:Bs) (d1:Bs):Option (uW×Bool):=(gV n d0).bind λX1=>(av (wV n d1 X1) n ((0:Int),([]:Bs),(0:Int),(false))).bind λQ2=>(match Q2 with|.inl G1=>some ((⟨G1.1,G1.2.1,(G1.2.2)⟩:uW),(true))|.inr G2=>some (z_TQ0,(false)))
theorem yf (d0:Bs) (d1:Bs) (z:Zs):oK ([]) [] 168 [S d0,S d1] (pC n d0 d1) (λr y=>⟨.tuple #[wP.ag r.1 y,.bool r.2],[],[]⟩):=
 fn 32 Tryz.func168 (ob (λ_ X2=>lp [al 0,C (jE n d0) X2 [] [] 1] {} (λK1 _ _=>{L:=[(8,.int .i64 K1.1)],ks:=[1,4,6],m:=[(0,0,S K1.2.1),(0,1,.int .i8 K1.2.2.1),(0,2,.bool K1.2.2.2)]}) (λx z b=>match x with|.inl G1=>{e:=.ret,L:=[(5,.bool true)],ks:=[4],m:=[(0,0,S G1.1),(0,1,.int .i8 G1.2.1),(0,2,.bool G1.2.2)]}|.inr G2=>{e:=.exit 0,ks:=[4],m:=[(0,0,S G2.1),(0,1,.int .i8 G2.2.1),(0,2,.bool G2.2.2)]}) (λK1=>br [] (ob (λ_ X4=>br [I 1 2 wP X4,K 2 0] (ob (λ_ X6=>rt [I 1 3 wP X6,K 3 0,Sn 0])) (nd (λO1=>rt [wr 19 O1])))) (rt [])) (kS (kA λ_=>rt [] {rk:=[0,0]}) (kA λ_=>rt [Sn 0] {rk:=[0,0]}))))
def jW (d0:Bs) (d1:Bs) (d2:Bs):Option (Bs×Int):=(gV n d0).bind λX1=>bif !(decide (X1.2=0)) then some (([]:Bs),X1.2) else bif decide (d2=[65,114,110]) then ar (d0.length+ [58].length≤9223372036854775807)<|ar ((d0++[58]).length+d1.length≤9223372036854775807)<|some ((d0++[58])++d1,(0:Int)) else bif decide (d2=[90,111,110,101]) then ar (inR .i64 ((d1.length:Int)-1))<|ar (0≤(max ((d1.length:Int)-1) (0:Int))∧(max ((d1.length:Int)-1) (0:Int))≤d1.length)<|some (d1.drop (max ((d1.length:Int)-1) (0:Int)).toNat,(0:Int)) else some (([]:Bs),(91:Int))
theorem ye (d0:Bs) (d1:Bs) (d2:Bs) (z:Zs):oK ([]) [] 224 [S d0,S d1,S d2] (jW n d0 d1 d2) (λr y=>⟨.tuple #[S r.1,.int .i64 r.2],[],[]⟩):=
 fn 33 Tryz.func224 (ob (λ_ X2=>br [C (jE n d0) X2 [] [] 0] (rt []) (br [] (nd (λO1=>nd (λO2=>rt [cat (l:=d0) (m:=[58]) O1,cat O2]))) (br [] (nd (λO3=>nd (λO4=>rt [wr 30 O3,mx,tF O4]))) (rt [])))))
def pE (d0:bz) (K1:Int):Option (Lp Int (Sum Unit Unit)):=bif decide (K1<(d0.bu.length:Int)) then(aq d0.bu K1).bind λX5=>bif !(decide (X5.aA=3)) then some (.br (.inl ())) else(aq d0.bu K1).bind λX7=>(lJ n X7.be).bind λX9=>bif !X9 then some (.br (.inl ())) else ar (inR .i64 (K1+1))<|some (.nx (K1+1)) else some (.br (.inr ()))
def qD (d0:bz) (d1:Int):Option Bool:=(bif !(decide (d0.aA=d1)) then some (true) else(gh n d0).bind λX1=>some (!(decide (X1=0))):Option Bool).bind λG1=>bif G1 then some (false) else bif decide (d1=3) then(lJ n d0.be).bind λX3=>some (X3) else(bif decide (d1=4) then some (decide ((8:Int)<(d0.bu.length:Int))) else some (false):Option Bool).bind λG2=>bif G2 then some (false) else(av (pE n d0) n (0:Int)).bind λQ2=>(match Q2 with|.inl G3=>some (false)|.inr G4=>some (true))
theorem ref09_value_C (d0:bz) (d1:Int) (z:Zs):oK (aO.facts d0 z) [] 170 [aO.ag d0 z,.int .i8 d1] (qD n d0 d1) (λr y=>⟨.bool r,[],[]⟩):=
 fn 52 Tryz.func170 (jn (.reg 1) [bx 2] (λG1 _ _=>{L:=[(14,.bool G1)],ks:=[1,2]}) (bs [K 2 0] 10 (rt []) (ob (λ_ X2=>rt [K 2 0,C (dK n d0) X2 [0,1] [] 3]))) (kA λ_=>br [] (rt []) (br [] (ob (λ_ X4=>rt [K 2 3,C (tw n d0.be) X4 [] [] 3])) (jn (.reg 5) [] (λG2 _ _=>{L:=[(27,.bool G2)],ks:=[2]}) (bs [] 22 (rt [K 2 4]) (rt [])) (kA λ_=>br [] (rt []) (lp [] {} (λK1 _ _=>{L:=[(5,.int .i64 K1)],ks:=[2]}) (λx z b=>match x with|.inl G3=>{e:=.ret,L:=[(4,.bool false)]}|.inr G4=>{e:=.exit 0}) (λK1=>br [K 2 4] (ob (λ_ X6=>bs [K 2 4,I 0 3 aO X6,K 3 0] 42 (rt [cd true]) (ob (λX7 X8=>ob (λ_ X10=>br [K 2 4,I 0 6 aO X8,K 6 3,C (tw n X7.be) X10 [] [] 9] (rt []) (nd (λO1=>rt [wr 34 O1]))))))) (rt [])) (kS (kA λ_=>rt []) (kA λ_=>rt []))))))))
def pA (d0:Bs) (d1:Cp) (K1:Int):Option (Lp Int (Sum Unit Unit)):=bif decide (K1<(d1.length:Int)) then(aq d1 K1).bind λX3=>(pC n d0 X3.aE).bind λX5=>(bif !X5.2 then some (true) else bif decide ((0:Int)<K1) then(aq d1 K1).bind λX7=>ar (inR .i64 (K1-1))<|(aq d1 (K1-1)).bind λX9=>some (Op.bytesLess X7.aE X9.aE||X7.aE==X9.aE) else some (false):Option Bool).bind λG1=>bif G1 then some (.br (.inl ())) else(aq d1 K1).bind λX11=>bif X11.dw then(bif decide (X5.1.aA=2) then some (true) else(aq d1 K1).bind λX13=>(pn n X13.fV cU).bind λX15=>some (!X15):Option Bool).bind λG2=>bif G2 then some (.br (.inl ())) else ar (inR .i64 (K1+1))<|some (.nx (K1+1)) else(aq d1 K1).bind λX17=>(qD n X17.fV X5.1.aA).bind λX19=>bif !X19 then some (.br (.inl ())) else ar (inR .i64 (K1+1))<|some (.nx (K1+1)) else some (.br (.inr ()))
def iP (d0:Bs) (d1:Cp):Option Int:=(gV n d0).bind λX1=>bif !(decide (X1.2=0)) then some (X1.2) else(av (pA n d0 d1) n (0:Int)).bind λQ1=>(match Q1 with|.inl G3=>some (91:Int)|.inr G4=>some (0:Int))
theorem mf (d0:Bs) (d1:Cp) (z:Zs):oK ([sX 8 aj (z 0) d1]) [] 113 [S d0,wX (z 0) d1] (iP n d0 d1) (λr y=>⟨.int .i64 r,[],[]⟩):=
 fn 81 Tryz.func113 (ob (λ_ X2=>br [C (jE n d0) X2 [] [] 1] (rt []) (lp [] {} (λK1 _ _=>{L:=[(7,.int .i64 K1)],ks:=[0,1]}) (λx z b=>match x with|.inl G3=>{e:=.ret,L:=[(4,.int .i64 91)]}|.inr G4=>{e:=.exit 0}) (λK1=>br [] (ob (λX3 X4=>ob (λX5 X6=>jn (.reg 8) [I 0 2 bc X4,K 2 0,C (yf n d0 X3.aE) X6 [] [] 5,al 5,Sn 5] (λG1 _ _=>{L:=[(53,.bool G1)],ks:=[0,1,7,8]}) (bh (.reg 8) [] (λB3=>rt [ch [] [(36,⟨cB B3⟩)],cd true,cd true,cd true,cd true]) (λB3=>bh (.reg 8) [] (λB4=>ob (λ_ X8=>nd (λO1=>ob (λ_ X10=>rt [Ie 0 6 bc X8,Ie 0 10 bc X10,ch [] [(36,⟨cB B3⟩),(39,⟨cB B4⟩),(47,⟨congrArg (Value.int .i64) (cD O1)⟩)],X 7,K 6 0,X 11,K 10 0])))) (λB4=>rt [ch [] [(36,⟨cB B3⟩),(39,⟨cB B4⟩)],cd true,cd true,cd true,cd true]))) (kA λ_=>br [] (rt []) (ob (λ_ X12=>br [I 0 14 bc X12,K 14 1] (jn (.reg 11) [] (λG2 _ _=>{L:=[(71,.bool G2)],ks:=[0,1,7]}) (bs [O 5] 62 (rt []) (ob (λX13 X14=>ob (λ_ X16=>rt [I 0 17 bc X14,K 17 2,nf 20 6 aw,nf 21 1 Dat.str,C (tn n X13.fV cU) X16 [18,19,20,21] [] 22])))) (kA λ_=>br [] (rt []) (nd (λO2=>rt [wr 23 O2])))) (ob (λX17 X18=>ob (λ_ X20=>br [Ie 0 17 bc X18,X 18,K 17 2,O 5,C (ref09_value_C n X17.fV X5.1.aA) X20 [19,20] [] 21] (rt []) (nd (λO3=>rt [wr 23 O3]))))))))))) (rt [])) (kS (kA λ_=>rt []) (kA λ_=>rt [])))))
def tA (n:Nat) (d0:Cp) (d1:Bs) (K1:Int×aG):Option (Lp (Int×aG) (Sum aG aG)):=bif decide (K1.1<(d0.length:Int)) then(aq d0 K1.1).bind λX1=>bif decide (X1.aE=d1) then(aq d0 K1.1).bind λX3=>some (.br (.inl X3)) else ar (inR .i64 (K1.1+1))<|some (.nx (K1.1+1,K1.2)) else some (.br (.inr K1.2))
def sA (d0:Cp) (d1:Bs):Option (aG×Bool):=(av (tA n d0 d1) n ((0:Int),(⟨([]:Bs),(false),cU⟩:aG))).bind λQ2=>(match Q2 with|.inl G1=>some (G1,(true))|.inr G2=>some ((⟨([]:Bs),(false),cU⟩:aG),(false)))
theorem zJ (d0:Cp) (d1:Bs) (z:Zs):oK ([sX 8 aj (z 0) d0]) [] 115 [wX (z 0) d0,S d1] (sA n d0 d1) (λr y=>⟨.tuple #[bc.ag r.1 y,.bool r.2],[],bc.facts r.1 y⟩):=
 fn 25 Tryz.func115 (lp [al 1,nf 2 6 aw,nf 3 1 Dat.str] {is:=[2,3]} (λK1 z _=>{L:=[(6,.int .i64 K1.1)],ks:=[0,1,4],o:=[(1,.cells (bc.cells K1.2 z).toArray 186 (0,0))],F:=nums 4 (bc.facts K1.2 z)}) (λx z b=>match x with|.inl G1=>{e:=.ret,L:=[(5,.bool true)],ks:=[4],o:=[(1,.cells (bc.cells G1 z).toArray 186 (0,0))],F:=nums 12 (bc.facts G1 z)}|.inr G2=>{e:=.exit 0,ks:=[4],o:=[(1,.cells (bc.cells G2 z).toArray 186 (0,0))],F:=nums 12 (bc.facts G2 z)}) (λK1=>br [] (ob (λ_ X2=>br [I 0 6 bc X2,K 6 0] (ob (λ_ X4=>rt [I 0 9 bc X4,K 9 0,Sn 1] {is:=[10,11]})) (nd (λO1=>rt [wr 12 O1] {is:=[4,5]})))) (rt [] {is:=[4,5]})) (kS (kA λ_=>rt [] {is:=[12,13],rk:=[1,0]}) (kA λ_=>rt [Sn 1,nf 14 6 aw,nf 15 1 Dat.str] {is:=[14,15],rk:=[1,0]})))
def ny (n:Nat) (d1:Cp) (K1:Int):Option (Lp Int (Sum Unit Unit)):=bif decide (K1<(d1.length:Int)) then(aq d1 K1).bind λX5=>bif X5.dw then some (.br (.inl ())) else ar (inR .i64 (K1+1))<|some (.nx (K1+1)) else some (.br (.inr ()))
def nA (d1:Cp) (d2:Cp) (X7:List uW×Int) (K2:Int×Int):Option (Lp (Int×Int) (Sum Unit Int)):=bif decide (K2.2<(X7.1.length:Int)) then(aq X7.1 K2.2).bind λX9=>(sA n d1 X9.aE).bind λX11=>(aq X7.1 K2.2).bind λX13=>(sA n d2 X13.aE).bind λX15=>(bif X11.2==X15.2 then bif !X11.2 then some (true) else bif !X15.1.dw then(kg n X11.1.fV X15.1.fV).bind λX17=>some (X17) else some (false) else some (false):Option Bool).bind λG3=>bif G3 then ar (inR .i64 (K2.2+1))<|some (.nx (K2.1,K2.2+1)) else(aq X7.1 K2.2).bind λX19=>bif X19.xV then some (.br (.inl ())) else ar (inR .i64 (K2.2+1))<|some (.nx ((2:Int),K2.2+1)) else some (.br (.inr K2.1))
def ov (d0:Bs) (d1:Cp) (d2:Cp):Option (Int×Int):=(iP n d0 d1).bind λX1=>bif !(decide (X1=0)) then some ((0:Int),X1) else(iP n d0 d2).bind λX3=>bif !(decide (X3=0)) then some ((0:Int),X3) else(av (ny n d1) n (0:Int)).bind λQ1=>(match Q1 with|.inl G1=>some ((0:Int),(91:Int))|.inr G2=>(gV n d0).bind λX7=>(av (nA n d1 d2 X7) n ((0:Int),(0:Int))).bind λQ2=>(match Q2 with|.inl G4=>some ((3:Int),(0:Int))|.inr G5=>some (G5,(0:Int))))
theorem BO (d0:Bs) (d1:Cp) (d2:Cp) (z:Zs):oK ([sX 8 aj (z 0) d1,sX 8 aj (z 1) d2]) [] 55 [S d0,wX (z 0) d1,wX (z 1) d2] (ov n d0 d1 d2) (λr y=>⟨.tuple #[.int .i8 r.1,.int .i64 r.2],[],[]⟩):=
 fn 97 Tryz.func55 (ob (λ_ X2=>br [C (mf n d0 d1) X2 [0] [] 2] (rt []) (ob (λ_ X4=>br [C (mf n d0 d2) X4 [1] [] 2] (rt []) (lp [] {} (λK1 _ _=>{L:=[(9,.int .i64 K1)],ks:=[0,1,2]}) (λx z b=>match x with|.inl G1=>{e:=.ret,L:=[(6,.int .i8 0),(7,.int .i64 91)]}|.inr G2=>{e:=.exit 0,ks:=[0,1,2]}) (λK1=>br [] (ob (λ_ X6=>br [I 0 2 bc X6,K 2 1] (rt []) (nd (λO1=>rt [wr 35 O1])))) (rt [])) (kS (kA λ_=>rt []) (kA λ_=>ob (λ_ X8=>lp [C (jE n d0) X8 [] [] 5] {} (λK2 _ _=>{L:=[(12,.int .i8 K2.1),(13,.int .i64 K2.2)],ks:=[1,2,10]}) (λx z b=>match x with|.inl G4=>{e:=.ret,L:=[(6,.int .i8 3),(7,.int .i64 0)]}|.inr G5=>{e:=.exit 2,L:=[(12,.int .i8 G5)]}) (λK2=>br [] (ob (λX9 X10=>ob (λX11 X12=>ob (λX13 X14=>ob (λX15 X16=>jn (.reg 19) [I 5 6 wP X10,K 6 0,C (zJ n d1 X9.aE) X12 [0] [] 7,al 9,Sn 9,I 5 10 wP X14,K 10 0,C (zJ n d2 X13.aE) X16 [1] [] 11,al 13,Sn 13] (λG3 _ _=>{L:=[(90,.bool G3)],ks:=[1,2,10,12,13]}) (bs [] 75 (bs [] 78 (rt []) (bs [O 13] 82 (ob (λ_ X18=>rt [O 9,O 13,C (ma n X11.1.fV X15.1.fV) X18 [7,8,11,12] [] 14])) (rt []))) (rt [])) (kA λ_=>br [] (nd (λO2=>rt [wr 51 O2])) (ob (λ_ X20=>br [I 5 14 wP X20,K 14 2] (rt []) (nd (λO3=>rt [wr 51 O3])))))))))) (rt [])) (kS (kA λ_=>rt []) (kA λ_=>rt []))))))))))
def pD (d0:Cp) (K1:Int):Option (Lp Int (Sum Unit Unit)):=bif decide (K1<(d0.length:Int)) then(aq d0 K1).bind λX1=>bif decide ((200:Int)<(X1.aE.length:Int)) then some (.br (.inl ())) else(aq d0 K1).bind λX3=>(iO n X3.fV).bind λX5=>bif X5 then some (.br (.inl ())) else ar (inR .i64 (K1+1))<|some (.nx (K1+1)) else some (.br (.inr ()))
def mE (d0:Cp):Option Bool:=bif decide ((60:Int)<(d0.length:Int)) then some (true) else(av (pD n d0) n (0:Int)).bind λQ1=>(match Q1 with|.inl G1=>some (true)|.inr G2=>some (false))
theorem mg (d0:Cp) (z:Zs):oK ([sX 8 aj (z 0) d0]) [] 43 [wX (z 0) d0] (mE n d0) (λr y=>⟨.bool r,[],[]⟩):=
 fn 28 Tryz.func43 (br [] (rt []) (lp [] {} (λK1 _ _=>{L:=[(3,.int .i64 K1)],ks:=[0]}) (λx z b=>match x with|.inl G1=>{e:=.ret,L:=[(2,.bool true)]}|.inr G2=>{e:=.exit 0}) (λK1=>br [] (ob (λ_ X2=>bs [I 0 1 bc X2,K 1 0] 20 (rt [cd true]) (ob (λX3 X4=>ob (λ_ X6=>br [I 0 4 bc X4,K 4 2,C (mc n X3.fV) X6 [5,6] [] 7] (rt []) (nd (λO1=>rt [wr 12 O1]))))))) (rt [])) (kS (kA λ_=>rt []) (kA λ_=>rt []))))
variable {n:Nat}
theorem and_tab: ((List.range 256).all λc=>bAnd .i64 (c:Int) 31== ((c % 32:Nat):Int)&& (bAnd .i64 (c:Int) 15== ((c % 16:Nat):Int)&&bAnd .i64 (c:Int) 7== ((c % 8:Nat):Int)))=true:=by kernel_rfl
theorem and_low (c:UInt8): (0≤bAnd .i64 (c.toNat:Int) 31∧bAnd .i64 (c.toNat:Int) 31≤31)∧(0≤bAnd .i64 (c.toNat:Int) 15∧bAnd .i64 (c.toNat:Int) 15≤31)∧0≤bAnd .i64 (c.toNat:Int) 7∧bAnd .i64 (c.toNat:Int) 7≤31:=by
 have h:=List.all_eq_true.1 and_tab c.toNat (List.mem_range.2 (UInt8.toNat_lt c))
 simp only[Bool.and_eq_true,beq_iff_eq] at h
 omega
instance {c:Int}:Tt (kF n c) True λ_=>True:=⟨λ_=>by unfold kF;exact tgo⟩
instance {c:Int}:Tt (qB n c) True λ_=>True:=⟨λ_=>by unfold qB;exact tgo⟩
instance {s:Bs} {d:Int} {y:Int×Int×Int}:Tt (av (tj n s d y) n (y.2.1,(1:Int))) (10<n∧0≤d∧d+y.1≤s.length∧s.length≤10000000000000∧0≤y.2.1∧y.2.1≤31∧y.1≤4) λ_=>True:=
 ⟨λh=>Tot.li (λs=>s.2) (λs=>1≤s.2∧0≤s.1∧(s.2=1→s.1≤31)∧(s.2=2→s.1≤3000)∧(s.2=3→s.1≤300000)∧s.1≤30000000) 5 (by omega) (by dsimp only;omega) λs h1 h2=>by
  unfold tj
  refine Tot.cd (λh3=>Tot.i (by omega) (Tot.b (Tot.g (by omega) λc _=>?_))) (λ_=>Tot.sb trivial)
  have:=UInt8.toNat_lt c
  refine Tot.b (Tot.m (R:=λy=>y=false→128≤c.toNat∧c.toNat≤191) (Tot.cd (λ_=>Tot.s (by simp)) (λ_=>Tot.s (by simp;omega))) λy hy=>Tot.c (λ_=>Tot.sb trivial) λh4=>?_)
  have:=hy h4
  exact Tot.i (by omega) (Tot.i (by omega) (Tot.i (by omega) (Tot.i (by omega) (Tot.sn (by dsimp only;omega)))))⟩
instance {s:Bs} {d:Int}:Tt (wu n s d) (10<n∧s.length≤10000000000000) λr=>0≤r.2∧r.2≤4:=⟨λh=>by
 unfold wu
 refine Tot.b (Tot.m (R:=λy=>y=false→0≤d∧d<s.length) (Tot.cd (λ_=>Tot.s (by simp)) (λ_=>Tot.s (by simp;omega))) λy hy=>Tot.c (λ_=>Tot.s (by simp)) λh4=>?_)
 have:=hy h4
 refine Tot.b (Tot.g (by omega) λc _=>?_)
 have:=and_low c
 refine Tot.b (Tot.m (R:=λj=>match j with|.nx y=>2≤y.1∧y.1≤4∧0≤y.2.1∧y.2.1≤31|.br l=>0≤l.2∧l.2≤4) ?_ λj hj=>?_)
 · exact tgo
 · cases j with
   |br l=>exact⟨l,rfl,hj⟩
   |nx y=>
    dsimp only at hj
    refine Tot.jn (Tot.i (by omega) ?_)
    exact tgo⟩
instance {s:Bs}:Tt (av (pj n s) n (0:Int)) (10000000000001<n∧s.length≤10000000000000) λ_=>True:=
 ⟨λh=>Tot.li (λs=>s) (λ_=>True) s.length (by omega) (by simp) λs h1 _=>by unfold pj;exact tgo⟩
instance {s:Bs}:Tt (gU n s) (10000000000001<n∧s.length≤10000000000000) λ_=>True:=⟨λ_=>by unfold gU;exact tgo⟩
instance {s:Bs}:Tt (av (rn n s) n (0:Int)) (10000000000001<n∧s.length≤10000000000000) λ_=>True:=
 ⟨λh=>Tot.li (λs=>s) (λ_=>True) s.length (by omega) (by simp) λs h1 _=>by unfold rn;exact tgo⟩
instance {s:Bs}:Tt (pg n s) (10000000000001<n∧s.length≤10000000000000) λ_=>True:=⟨λ_=>by unfold pg;exact tgo⟩
theorem w12 (hn:10000000000001<n): ∀ (k:Nat) (x:bZ) (d:Int),dsz (aN x)<k→dsz (aN x)≤10000000000000→0≤d∧d≤1000→Tot (dO n k x d) λw=>0≤w∧w≤20000+10000*d
 |0,x,d,h,_,_=>by omega
 |k+1,x,d,hk,hz,hd=>by
  have hp:_∧_:=Sz.p x
  haveI: ∀y e,Tt (dO n k y e) (dsz (aN y)<k∧dsz (aN y)≤10000000000000∧0≤e∧e≤1000) (λw=>0≤w∧w≤20000+10000*e):=λy e=>⟨λh=>w12 hn k y e h.1 h.2.1 h.2.2⟩
  haveI: ∀w,Tt (av (nB n (dO n k) x d) n (w,(0:Int))) (0≤w∧w≤20000+10000*d∧1≤d) (λw=>0≤w∧w≤20000+10000*d):=λw=>⟨λh=>Tot.li (λs=>s.2) (λs=>0≤s.1∧s.1≤20000+10000*d) x.fL.length (by omega) (by dsimp only;omega) λs h1 h2=>by
   unfold nB;exact tgo⟩
  unfold dO pF
  exact tgo
instance {x:bZ}:Tt (mF n x) (10000000000001<n∧dsz (aN x)≤10000000000000) λ_=>True:=⟨λh=>by
 haveI:Tt (tC n x 30) True (λ_=>True):=⟨λ_=>(w12 h.1 n x 30 (by omega) h.2 (by omega)).m λ_ _=>trivial⟩
 unfold mF;exact tgo⟩
instance {v:bz} {w:Int}:Tt (av (nv n v) n (w,(0:Int))) (10000000000001<n∧0≤w∧w≤10001∧v.bU.length≤3000) λw=>0≤w∧w≤50000000:=
 ⟨λh=>Tot.li (λs=>s.2) (λs=>0≤s.1∧s.1≤10001+10000*s.2∧s.2≤v.bU.length) v.bU.length (by omega) (by dsimp only;omega) λs h1 h2=>by unfold nv;exact tgo⟩
theorem w03 (hn:10000000000001<n): ∀ (k:Nat) (x:bz) (d:Int),dsz (aw x)<k→dsz (aw x)≤10000000000000→0≤d∧d≤1000→Tot (dN n k x d) λw=>0≤w∧w≤50010000+10000*d
 |0,x,d,h,_,_=>by omega
 |k+1,x,d,hk,hz,hd=>by
  have hp:_∧_:=Sz.p x
  haveI: ∀y e,Tt (dN n k y e) (dsz (aw y)<k∧dsz (aw y)≤10000000000000∧0≤e∧e≤1000) (λw=>0≤w∧w≤50010000+10000*e):=λy e=>⟨λh=>w03 hn k y e h.1 h.2.1 h.2.2⟩
  haveI: ∀w,Tt (av (nw n (dN n k) x d) n (w,(0:Int))) (0≤w∧w≤50000000∧1≤d) (λw=>0≤w∧w≤50010000+10000*d):=λw=>⟨λh=>Tot.li (λs=>s.2) (λs=>0≤s.1∧s.1≤50010000+10000*d) x.bu.length (by omega) (by dsimp only;omega) λs h1 h2=>by
   unfold nw;exact tgo⟩
  unfold dN pu
  refine Tot.b (Tot.m (R:=λy=>y=false→1≤d∧x.bU.length≤3000) (Tot.cd (λ_=>Tot.s (by simp)) (λ_=>Tot.cd (λ_=>Tot.s (by simp)) (λ_=>Tot.s (by simp;omega)))) λy hy=>Tot.c (λ_=>Tot.s (by omega)) λh4=>?_)
  have:=hy h4
  exact tgo
instance {x:bz}:Tt (iO n x) (10000000000001<n∧dsz (aw x)≤10000000000000) λ_=>True:=⟨λh=>by
 haveI:Tt (tv n x 30) True (λ_=>True):=⟨λ_=>(w03 h.1 n x 30 (by omega) h.2 (by omega)).m λ_ _=>trivial⟩
 unfold iO;exact tgo⟩
theorem c03 (hn:10000000000001<n): ∀ (k:Nat) (x:bz),dsz (aw x)<k→dsz (aw x)≤10000000000000→Tot (gA n k x) λw=>0≤w∧w≤dsz (aw x)
 |0,x,h,_=>by omega
 |k+1,x,hk,hz=>by
  have hp:_∧_:=Sz.p x
  haveI: ∀y,Tt (gA n k y) (dsz (aw y)<k∧dsz (aw y)≤10000000000000) (λw=>0≤w∧w≤dsz (aw y)):=λy=>⟨λh=>c03 hn k y h.1 h.2⟩
  unfold gA rp
  refine Tot.b (Tot.m (R:=λw=>0≤w∧w≤dsz (aw x)) (Tot.li (λs=>s.2) (λs=>0≤s.1∧s.2≤x.bu.length∧s.1≤1+dszs ((x.bu.take s.2.toNat).map aw)) x.bu.length (by omega) (by simp[dszs]) λs h1 h2=>?_) λ_ h=>Tot.s h)
  unfold vv
  refine Tot.cd (λh3=>?_) (λh3=>Tot.sb ?_)
  ·refine Tot.b (Tot.gt ⟨h1,h3⟩ λy hy ht=>?_)
   have:=dZ hy
   have:=ht aw
   have:=lA (xs:=x.bu) (s.2.toNat+1)
   have:=lA (xs:=x.bu) s.2.toNat
   simp only[Sz.f,zz,zl] at*
   have e: (s.2+1).toNat=s.2.toNat+1:=by omega
   exact Tot.cl (by omega) λw hw=>Tot.i (by omega) (Tot.i (by omega) (Tot.sn (by dsimp only;rw[e];omega)))
  have:s.2.toNat=x.bu.length:=by omega
  rw[this,List.take_length] at h2
  omega
theorem d03 (hn:10000000000001<n): ∀ (k:Nat) (x:bz) (d:Int),dsz (aw x)<k→dsz (aw x)≤10000000000000→0≤d∧d≤1000→Tot (dM n k x d) λ_=>True
 |0,x,d,h,_,_=>by omega
 |k+1,x,d,hk,hz,hd=>by
  have hp:_∧_:=Sz.p x
  haveI: ∀y e,Tt (dM n k y e) (dsz (aw y)<k∧dsz (aw y)≤10000000000000∧0≤e∧e≤1000) (λ_=>True):=λy e=>⟨λh=>d03 hn k y e h.1 h.2.1 h.2.2⟩
  haveI:Tt (av (nq n (dM n k) x d) n (0:Int)) (1≤d) (λ_=>True):=⟨λh=>Tot.li (λs=>s) (λ_=>True) x.bu.length (by omega) (by simp) λs h1 h2=>by
   unfold nq;exact tgo⟩
  unfold dM pp
  exact tgo
def Wf:Nat→bz→Prop|0,_=>False|k+1,v=>(v.bu.length=0∨v.aA=4∨v.aA=5)∧(v.aA=5→v.bU.length=v.bu.length)∧(-9007199254740992≤v.dV∧v.dV≤9007199254740992)∧∀x∈v.bu,Wf k x
instance {v:bz}:Tt (qC n v) True λb=>b=true→(v.bu.length=0∨v.aA=4∨v.aA=5)∧(v.aA=5→v.bU.length=v.bu.length):=⟨λ_=>by
 unfold qC
 refine Tot.b (Tot.m (R:=λ_=>True) tgo λ_ _=>Tot.c (λ_=>Tot.s (by simp)) λ_=>Tot.b (Tot.m (R:=λ_=>True) tgo λ_ _=>Tot.c (λ_=>Tot.s (by simp)) λ_=>Tot.b (Tot.m (R:=λy=>y=false→v.bu.length=0∨v.aA=4∨v.aA=5) ?_ λy hy=>Tot.c (λ_=>Tot.s (by simp)) λh=>?_)))
 · exact Tot.cd (λ_=>Tot.cn (Tot.cd (λ_=>Tot.s (by omega)) λ_=>Tot.s (by simp;omega))) λ_=>Tot.s (by omega)
 · exact Tot.cd (λ_=>Tot.s (by simp;intro _;have:=hy h;omega)) λ_=>Tot.s (λ_=>⟨hy h,by omega⟩)⟩
theorem wr03 (hn:10000000000001<n): ∀ (k:Nat) (x:bz),dsz (aw x)<k→dsz (aw x)≤10000000000000→Tot (eh n k x) λe=>e=0→Wf k x
 |0,x,h,_=>by omega
 |k+1,x,hk,hz=>by
  have hp:_∧_:=Sz.p x
  haveI: ∀y,Tt (eh n k y) (dsz (aw y)<k∧dsz (aw y)≤10000000000000) (λe=>e=0→Wf k y):=λy=>⟨λh=>wr03 hn k y h.1 h.2⟩
  haveI:Tt (av (pw n x) n (0:Int)) True (λ_=>True):=⟨λ_=>Tot.li (λs=>s) (λ_=>True) x.bU.length (by omega) (by simp) λs h1 _=>by unfold pw;exact tgo⟩
  haveI: ∀i,Tt (av (py n x i) n (0:Int)) (0≤i∧i<x.bU.length) (λ_=>True):=λi=>⟨λ_=>Tot.li (λs=>s) (λ_=>True) x.bU.length (by omega) (by simp) λs h1 _=>by unfold py;exact tgo⟩
  haveI:Tt (av (px n x) n (0:Int)) True (λ_=>True):=⟨λ_=>Tot.li (λs=>s) (λ_=>True) x.bU.length (by omega) (by simp) λs h1 _=>by unfold px;exact tgo⟩
  haveI:Tt (av (pz n (eh n k) x) n (0:Int)) True (λb=>match b with|.inl e=>e≠0|.inr _=>∀y∈x.bu,Wf k y):=⟨λ_=>Tot.lm x.bu (λs=>s) (Wf k) (λ_=>True) (by omega) rfl trivial λs h1 _ hm=>by
   unfold pz
   refine Tot.cd (λh3=>Tot.b (Tot.gm ⟨h1,h3⟩ λy hy ht=>?_)) λh3=>Tot.sb (cu h3 hm)
   have:=dZ hy
   simp only[Sz.f,zz,zl] at*
   exact Tot.cl (by omega) λe he=>Tot.cn (Tot.cd (λh=>Tot.i (by omega) (Tot.sn ⟨h3,rfl,ht hm (he h),trivial⟩)) λh=>Tot.sb h)⟩
  unfold eh rv
  refine Tot.cl trivial λb hb=>Tot.cn (Tot.c (λh=>?_) λ_=>Tot.s (by simp))
  refine Tot.b (Tot.m (R:=λy=>y=false→ -9007199254740992≤x.dV∧x.dV≤9007199254740992) (Tot.cd (λ_=>Tot.s (by simp)) (λ_=>Tot.s (by simp;omega))) λy hy=>Tot.c (λ_=>Tot.s (by simp)) λh4=>?_)
  refine Tot.cl (by omega) λ_ _=>Tot.cn (Tot.c (λ_=>?_) λ_=>Tot.s (by simp))
  refine Tot.cl trivial λb1 _=>?_
  cases b1 with
  |inl _=>exact Tot.s (by simp)
  |inr _=>
   refine Tot.cl trivial λb1 _=>?_
   cases b1 with
   |inl _=>exact Tot.s (by simp)
   |inr _=>
    refine Tot.cl trivial λb1 h5=>?_
    cases b1 with
    |inl _=>exact Tot.s (λh6=>(h5 h6).elim)
    |inr _=>exact Tot.s (λ_=>⟨(hb h).1,(hb h).2,hy h4,h5⟩)
instance {x:bz}:Tt (gh n x) (10000000000001<n∧dsz (aw x)≤10000000000000) λe=>e=0→Wf n x:=⟨λh=>by
 haveI:Tt (tu n x 24) True (λ_=>True):=⟨λ_=>d03 h.1 n x 24 (by omega) h.2 (by omega)⟩
 haveI:Tt (vw n x) True (λe=>e=0→Wf n x):=⟨λ_=>wr03 h.1 n x (by omega) h.2⟩
 haveI:Tt (vu n x) True (λ_=>True):=⟨λ_=>(c03 h.1 n x (by omega) h.2).m λ_ _=>trivial⟩
 unfold gh
 refine Tot.cl trivial λ_ _=>Tot.c (λ_=>Tot.s (by simp)) λ_=>Tot.cl trivial λe he=>Tot.cn (Tot.cd (λh2=>?_) λh2=>Tot.s (λh3=>(h2 h3).elim))
 exact Tot.cl trivial λ_ _=>Tot.cd (λ_=>Tot.s (by simp)) λ_=>Tot.s (λ_=>he h2)⟩
theorem same03 (hn:10000000000001<n): ∀ (k:Nat) (x y:bz),dsz (aw x)<k→dsz (aw x)≤10000000000000→Tot (gi n k x y) λ_=>True
 |0,x,_,h,_=>by omega
 |k+1,x,y,hk,hz=>by
  have hp:_∧_:=Sz.p x
  haveI: ∀a b,Tt (gi n k a b) (dsz (aw a)<k∧dsz (aw a)≤10000000000000) (λ_=>True):=λa b=>⟨λh=>same03 hn k a b h.1 h.2⟩
  haveI:Tt (av (rq n x y) n (0:Int)) (x.bU.length=y.bU.length) (λ_=>True):=⟨λh=>Tot.li (λs=>s) (λ_=>True) x.bU.length (by omega) (by simp) λs h1 _=>by unfold rq;exact tgo⟩
  haveI:Tt (av (ru n (gi n k) x y) n (0:Int)) (x.bu.length=y.bu.length) (λ_=>True):=⟨λh=>Tot.li (λs=>s) (λ_=>True) x.bu.length (by omega) (by simp) λs h1 _=>by unfold ru;exact tgo⟩
  unfold gi tq
  refine Tot.b (Tot.m (R:=λb=>b=false→x.bu.length=y.bu.length∧x.bU.length=y.bU.length) ?_ λb hb=>Tot.c (λ_=>Tot.s trivial) λh=>?_)
  ·exact Tot.cn (Tot.cd (λ_=>Tot.cn (Tot.c (λ_=>Tot.cn (Tot.cd (λ_=>Tot.cn (Tot.cd (λ_=>Tot.cn (Tot.cd (λ_=>Tot.s (by simp;omega)) λ_=>Tot.s (by simp))) λ_=>Tot.s (by simp))) λ_=>Tot.s (by simp))) λ_=>Tot.s (by simp))) λ_=>Tot.s (by simp))
  have:=hb h
  exact tgo
instance {x y:bz}:Tt (pn n x y) (10000000000001<n∧dsz (aw x)≤10000000000000) λ_=>True:=⟨λh=>same03 h.1 n x y (by omega) h.2⟩
theorem comp03 (hn:10000000000001<n): ∀ (k m:Nat) (x y:bz),m≤k→Wf m x→Wf m y→dsz (aw x)≤10000000000000→Tot (dA n k x y) λ_=>True
 |0,m+1,x,_,h,h1,_,_=>by omega
 |0,0,x,_,h,h1,_,_=>h1.elim
 |k+1,0,x,_,h,h1,_,_=>h1.elim
 |k+1,m+1,x,y,hk,hx,hy,hz=>by
  have hp:_∧_:=Sz.p x
  obtain⟨_,hx2,_,hx4⟩:=hx
  obtain⟨_,hy2,_,hy4⟩:=hy
  haveI: ∀a b,Tt (dA n k a b) (Wf m a∧Wf m b∧dsz (aw a)≤10000000000000) (λ_=>True):=λa b=>⟨λh=>comp03 hn k m a b (by omega) h.1 h.2.1 h.2.2⟩
  haveI:Tt (av (lI n (dA n k) x y) n (0:Int)) (x.aA=y.aA) (λ_=>True):=⟨λh=>Tot.li (λs=>s) (λ_=>True) x.bu.length (by omega) (by simp) λs h1 _=>by
   unfold lI
   refine Tot.b (Tot.m (R:=λb=>b=true→s<x.bu.length∧s<y.bu.length) (Tot.cd (λ_=>Tot.s (by simp;omega)) λ_=>Tot.s (by simp)) λb hb=>Tot.c (λh2=>?_) λ_=>Tot.sb trivial)
   obtain⟨g1,g2⟩:=hb h2
   refine Tot.b (Tot.m (R:=λb=>b=true→x.aA=5) (Tot.cd (λh3=>?_) λ_=>Tot.s (by simp)) λb hb=>Tot.c (λh3=>?_) λ_=>?_)
   ·have:=hx2 h3
    have:=hy2 (by omega)
    exact Tot.b (Tot.g (by omega) λ_ _=>Tot.b (Tot.g (by omega) λ_ _=>Tot.s (λ_=>h3)))
   ·have:=hx2 (hb h3)
    have:=hy2 (by have:=hb h3;omega)
    exact tgo
   refine Tot.b (Tot.gz (by omega) λa ha hs _=>Tot.b (Tot.g (by omega) λb hb=>?_))
   have:=hx4 a ha
   have:=hy4 b hb
   exact tgo⟩
  unfold dA np
  exact tgo
theorem sort03 (hn:10000000000001<n): ∀ (k m:Nat) (x:bz),m≤k→Wf m x→dsz (aw x)≤10000000000000→Tot (eF n k x) λy=>Wf m y∧dsz (aw y)≤dsz (aw x)
 |0,m+1,x,h,h1,_=>by omega
 |0,0,x,h,h1,_=>h1.elim
 |k+1,0,x,h,h1,_=>h1.elim
 |k+1,m+1,x,hk,hx,hz=>by
  have hp:_∧_:=Sz.p x
  obtain⟨hx1,hx2,hx3,hx4⟩:=hx
  haveI: ∀a,Tt (eF n k a) (Wf m a∧dsz (aw a)≤10000000000000) (λy=>Wf m y∧dsz (aw y)≤dsz (aw a)):=λa=>⟨λh=>sort03 hn k m a (by omega) h.1 h.2⟩
  unfold eF pr
  refine Tot.b (Tot.m (R:=λy=>y.1.length=x.bu.length∧dszs (y.1.map aw)≤dszs (x.bu.map aw)∧(x.aA=5→y.2.length=y.1.length)∧dszs (y.2.map Dat.str)≤dszs (x.bU.map Dat.str)∧∀z∈y.1,Wf m z) ?_ λy hy=>Tot.s ⟨⟨?_,?_,hx3,hy.2.2.2.2⟩,?_⟩)
  ·refine Tot.li (λs=>s.1) (λs=>s.2.1.length=s.1∧s.1≤x.bu.length∧dszs (s.2.1.map aw)≤dszs ((x.bu.take s.1.toNat).map aw)∧(x.aA=5→s.2.2.length=s.1∧dszs (s.2.2.map Dat.str)≤dszs ((x.bU.take s.1.toNat).map Dat.str))∧(x.aA≠5→s.2.2=[])∧∀z∈s.2.1,Wf m z) x.bu.length (by omega) (by simp[dszs]) λs h1 ⟨g1,g2,g3,g4,g5,g6⟩=>?_
   unfold ux
   refine Tot.cd (λh2=>?_) λh2=>Tot.sb ?_
   ·refine Tot.b (Tot.gt ⟨h1,h2⟩ λa ha ht=>?_)
    have a1:=dZ ha
    have a2:=ht aw
    have a3:=lA (xs:=x.bu) (s.1.toNat+1)
    have e: (s.1+1).toNat=s.1.toNat+1:=by omega
    simp only[Sz.f,zz,zl] at*
    refine Tot.cl ⟨hx4 a ha,by omega⟩ λb ⟨hb1,hb2⟩=>?_
    refine Tot.cd (λh3=>Tot.n (by omega) (Tot.i (by omega) (Tot.sn ⟨by omega,by omega,by simp;omega,by dsimp only;omega,?_,λh=>by omega,λh=>g5 h,λz hz=>?_⟩))) λh3=>?_
    ·dsimp only;rw[e,List.map_append,gc];simp only[List.map_cons,List.map_nil,dszs];omega
    ·rcases List.mem_append.1 hz with hz|hz
     ·exact g6 z hz
     simp at hz;rw[hz];exact hb1
    have h5:x.aA=5:=by omega
    obtain⟨k1,k2⟩:=g4 h5
    have k3:=hx2 h5
    haveI:Tt (av (nt n x s) n (0:Int)) True (λy=>0≤y∧y≤s.2.2.length):=⟨λ_=>Tot.li (λs=>s) (λy=>y≤s.2.2.length) s.2.2.length (by omega) (by simp) λy h6 h7=>by unfold nt;exact tgo⟩
    refine Tot.cl trivial λy hy=>Tot.n (by omega) (Tot.n (by simp;omega) (Tot.n (by omega) (Tot.n (by simp;omega) ?_)))
    refine Tot.b (Tot.n (by omega) (Tot.b (Tot.gt ⟨h1,by omega⟩ λb5 hb5 ht5=>Tot.n (by simp;omega) (Tot.n (by rw[←List.length_append,AK _ _ (by omega)];omega) (Tot.s ?_)))))
    refine Tot.b (Tot.n (by omega) (Tot.n (by simp;omega) (Tot.n (by rw[←List.length_append,AK _ _ (by omega)];omega) (Tot.s ?_))))
    have a5:=ht5 Dat.str
    refine Tot.i (by omega) (Tot.sn ⟨h2,by omega,?_,by dsimp only;omega,?_,λ_=>⟨?_,?_⟩,λh=>(h h5).elim,λz hz=>?_⟩)
    ·rw[AK _ _ (by omega)];dsimp only;omega
    ·rw[ins_sz];dsimp only;rw[e];omega
    ·rw[AK _ _ (by omega)];dsimp only;omega
    ·rw[ins_sz];dsimp only;rw[e];omega
    rcases ins_mem hz with rfl|hz
    ·exact hb1
    exact g6 z hz
   have e:s.1.toNat=x.bu.length:=by omega
   rw[e,List.take_length] at g3
   refine⟨by dsimp only;omega,g3,λh=>by have:=g4 h;dsimp only;omega,?_,g6⟩
   by_cases h:x.aA=5
   ·have:=(g4 h).2
    have:=lA (xs:=x.bU) s.1.toNat
    simp only[Sz.f,zz,zl] at*
    omega
   rw[g5 h];simp[dszs]
  ·dsimp only;omega
  ·dsimp only;intro h;have:=hy.2.2.1 h;omega
  have hq:_∧_:=Sz.p (⟨x.aA,x.so,x.dV,x.be,y.1,y.2⟩:bz)
  dsimp only at hq
  omega
instance {x y:bz}:Tt (kg n x y) (10000000000001<n∧dsz (aw x)≤10000000000000∧dsz (aw y)≤10000000000000) λ_=>True:=⟨λ ⟨hn,h1,h2⟩=>by
 unfold kg
 refine Tot.cl ⟨hn,h1⟩ λa ha=>Tot.cd (λh=>?_) λ_=>Tot.s trivial
 refine Tot.cl ⟨hn,h2⟩ λb hb=>Tot.cd (λh'=>?_) λ_=>Tot.s trivial
 refine(sort03 hn n n x (by omega) (ha h) h1).k λu hu=>(sort03 hn n n y (by omega) (hb h') h2).k λv hv=>(comp03 hn n n u v (by omega) hu.1 hv.1 (by omega)).k λ_ _=>Tot.s trivial⟩
theorem ut (x:Int):0≤IntKind.wrap .u8 x∧IntKind.wrap .u8 x<256:=by
 have e:IntKind.wrap .u8 x=x % 256:=by simp[IntKind.wrap,IntKind.signed,IntKind.bits]
 omega
theorem dig02 (hn:100<n): ∀ (k j:Nat) (x:Int),j<k→0≤x∧x≤9007199254740992→x<10*10 ^ j→j≤20→Tot (gN n k x) λr=>1≤r.length∧r.length≤2*j+1
 |0,j,x,h,_,_,_=>by omega
 |k+1,j,x,h,h0,h1,hj=>by
  unfold gN pk
  refine Tot.cd (λ_=>Tot.i (by omega) (Tot.n (ut _) (Tot.s (by simp)))) λh2=>?_
  cases j with
  |zero=>simp at h1;omega
  |succ j=>
   have e1:x.tdiv 10=x / 10:=Int.tdiv_eq_ediv_of_nonneg h0.1
   have e2:x.tmod 10=x % 10:=Int.tmod_eq_emod_of_nonneg h0.1
   have h3: (10:Int) ^ (j+1)=10*10 ^ j:=by rw[Int.pow_succ];omega
   have h5: (0:Int)<10 ^ j:=by exact_mod_cast Nat.pow_pos (n:=j) (by decide:0<10)
   rw[h3] at h1
   rw[e1,e2]
   refine Tot.n (by omega) (Tot.i (by omega) ((dig02 hn k j (x / 10) (by omega) (by omega) (by omega) (by omega)).k λa ha=>Tot.n (by omega) ?_))
   refine(dig02 hn k 0 (x % 10) (by omega) (by omega) (by omega) (by omega)).k λb hb=>Tot.n (by omega) (Tot.s (by simp;omega))
instance {x:Int}:Tt (jV n x) (100<n) λr=>r.1.length≤100∧(r.2=0→ -9007199254740992≤x∧x≤9007199254740992):=⟨λhn=>by
 haveI:Tt (tm n x) True λb=>b=true→ -9007199254740992≤x∧x≤9007199254740992:=⟨λ_=>by
  unfold tm;exact Tot.cd (λ_=>Tot.s (by simp;omega)) λ_=>Tot.s (by simp)⟩
 haveI: ∀y,Tt (oq n y) (0≤y∧y≤9007199254740992) λr=>1≤r.length∧r.length≤2*17+1:=λy=>⟨λh=>dig02 hn n 17 y (by omega) h (by omega) (by omega)⟩
 unfold jV
 refine Tot.cl trivial λb hb=>Tot.cn (Tot.c (λh=>?_) λ_=>Tot.s (by simp))
 have:=hb h
 refine Tot.cd (λ_=>Tot.i (by omega) (Tot.cl (by omega) λr hr=>Tot.n (by simp;omega) (Tot.s ⟨by simp;omega,λ_=>this⟩))) λ_=>Tot.cl (by omega) λr hr=>Tot.s ⟨by dsimp only;omega,λ_=>this⟩⟩
instance {x:Int}:Tt (jk n x) (100<n) λr=>0≤r∧r≤100:=⟨λhn=>by
 unfold jk;exact Tot.cl hn λr hr=>Tot.s (by omega)⟩
instance {s:Bs}:Tt (lJ n s) (10000000000001<n) λ_=>True:=⟨λhn=>by unfold lJ;exact tgo⟩
theorem dig05: ∀ (k j:Nat) (x:Int),j<k→0≤x∧x≤9007199254740992→x<10*10 ^ j→j≤20→Tot (eG n k x) λr=>r.length≤j+1
 |0,j,x,h,_,_,_=>by omega
 |k+1,j,x,h,h0,h1,hj=>by
  unfold eG kG
  refine Tot.cd (λ_=>by omega) λ_=>Tot.cd (λ_=>Tot.i (by omega) (Tot.n (ut _) (Tot.s (by simp)))) λh2=>?_
  cases j with
  |zero=>simp at h1;omega
  |succ j=>
   have e1:x.tdiv 10=x / 10:=Int.tdiv_eq_ediv_of_nonneg h0.1
   have e2:x.tmod 10=x % 10:=Int.tmod_eq_emod_of_nonneg h0.1
   have h3: (10:Int) ^ (j+1)=10*10 ^ j:=by rw[Int.pow_succ];omega
   rw[h3] at h1
   rw[e1,e2]
   exact Tot.n (by omega) (Tot.i (by omega) ((dig05 k j (x / 10) (by omega) (by omega) (by omega) (by omega)).k λa ha=>Tot.n (by omega) (Tot.i (by omega) (Tot.n (ut _) (Tot.n (by simp;omega) (Tot.s (by simp;omega)))))))
instance {x:Int}:Tt (ou n x) (100<n∧ -9007199254740992≤x∧x≤9007199254740992) λr=>r.length≤20:=⟨λ ⟨hn,h1,h2⟩=>by
 obtain⟨k,rfl⟩: ∃k,n=k+1:=⟨n-1,by omega⟩
 unfold ou
 by_cases h:x<0
 · unfold eG kG
   exact Tot.cd (λ_=>Tot.i (by omega) ((dig05 k 17 (-x) (by omega) (by omega) (by omega) (by omega)).k λa ha=>Tot.n (by simp;omega) (Tot.s (by simp;omega)))) λh'=>(h' h).elim
 · exact(dig05 (k+1) 17 x (by omega) (by omega) (by omega) (by omega)).m λr hr=>by omega⟩
instance {x:Int}:Tt (sy n x) (0≤x∧x≤100) λr=>0≤r∧r<256:=⟨λh=>by
 unfold sy;exact Tot.cd (λ_=>Tot.i (by omega) (Tot.s (ut _))) λ_=>Tot.i (by omega) (Tot.i (by omega) (Tot.s (ut _)))⟩
instance {s:Bs}:Tt (kH n s) (10000000000001<n∧s.length≤10000000000000) λr=>r.length≤6*s.length+2:=⟨λ ⟨hn,hs⟩=>by
 haveI:Tt (av (pi n s) n ([(34:UInt8)],(0:Int))) True λr=>r.length≤6*s.length+1:=⟨λ_=>Tot.li (λs=>s.2) (λt=>t.1.length≤6*t.2+1∧t.2≤s.length) s.length (by omega) (by simp) λt h1 h2=>by
  unfold pi
  refine Tot.cd (λh3=>Tot.b (Tot.g ⟨h1,h3⟩ λc _=>?_)) λh3=>Tot.sb (by omega)
  have:=UInt8.toNat_lt c
  have e1: (c.toNat:Int).tdiv 16=(c.toNat:Int) / 16:=Int.tdiv_eq_ediv_of_nonneg (by omega)
  have e2: (c.toNat:Int).tmod 16=(c.toNat:Int) % 16:=Int.tmod_eq_emod_of_nonneg (by omega)
  rw[e1,e2]
  exact tgo⟩
 unfold kH vq
 exact Tot.b (Tot.cl ⟨hn,hs⟩ λ_ _=>Tot.cn (Tot.c (λ_=>Tot.cl trivial λr hr=>Tot.n (by omega) (Tot.s (Tot.s (by simp;omega)))) λ_=>Tot.s (Tot.s (by simp))))⟩
instance {v:bz}:Tt (tz n v) (10000000000001<n∧dsz (aw v)≤10000000000000∧ -9007199254740992≤v.dV∧v.dV≤9007199254740992) λr=>r.length+12≤12*dsz (aw v):=⟨λ ⟨hn,h1,h2⟩=>by
 have hp:_∧_:=Sz.p v
 unfold tz
 refine Tot.cd (λ_=>Tot.c (λ_=>Tot.s (by simp;omega)) λ_=>Tot.s (by simp;omega)) λ_=>Tot.cd (λ_=>Tot.cl (by omega) λr hr=>Tot.s (by omega)) λ_=>Tot.cd (λ_=>Tot.cl (by omega) λr hr=>Tot.s (by omega)) λ_=>Tot.s (by simp;omega)⟩
open Go.Ck
def pI (n:Nat) (d0:Cp) (K1:Int):Option (Lp Int (Sum Unit Unit)):=(bif decide (K1<(d0.length:Int)) then some (decide (K1≤40)) else some (false):Option Bool).bind λG1=>bif G1 then(aq d0 K1).bind λX1=>(iO n X1.fV).bind λX3=>bif X3 then some (.br (.inl ())) else(aq d0 K1).bind λX5=>bif decide ((400:Int)<(X5.aE.length:Int)) then some (.br (.inl ())) else ar (inR .i64 (K1+1))<|some (.nx (K1+1)) else some (.br (.inr ()))
def mG (n:Nat) (d0:Cp):Option Bool:=(av (pI n d0) n (0:Int)).bind λQ1=>(match Q1 with|.inl G2=>some (true)|.inr G3=>some (decide ((40:Int)<(d0.length:Int))))
theorem wY (n:Nat) (d0:Cp) (z:Zs):oK ([sX 8 aj (z 0) d0]) [] 45 [wX (z 0) d0] (mG n d0) (λr y=>⟨.bool r,[],[]⟩):=
 fn 32 Tryz.func45 (lp [] {} (λK1 _ _=>{L:=[(3,.int .i64 K1)],ks:=[0]}) (λx z b=>match x with|.inl G2=>{e:=.ret,L:=[(2,.bool true)]}|.inr G3=>{e:=.exit 0,ks:=[0]}) (λK1=>jn (.reg 2) [] (λG1 _ _=>{L:=[(11,.bool G1)],ks:=[0,3]}) (bs [] 8 (rt []) (rt [])) (kA λ_=>br [] (ob (λX1 X2=>ob (λ_ X4=>bs [I 0 1 bc X2,K 1 2,C (mc n X1.fV) X4 [2,3] [] 4] 20 (rt [cd true]) (ob (λ_ X6=>br [I 0 4 bc X6,K 4 0] (rt []) (nd (λO1=>rt [wr 13 O1]))))))) (rt []))) (kS (kA λ_=>rt []) (kA λ_=>rt [])))
def iT (n:Nat) (d0:CC) (K1:Int) (K2:Int):Option (Lp Int (Sum Unit Unit)):=(aq d0 K1).bind λX9=>bif decide (K2<(X9.cz.length:Int)) then(aq d0 K1).bind λX11=>(aq X11.cz K2).bind λX13=>(iO n X13).bind λX15=>bif X15 then some (.br (.inl ())) else ar (inR .i64 (K2+1))<|some (.nx (K2+1)) else some (.br (.inr ()))
def iR (n:Nat) (d0:CC) (K1:Int):Option (Lp Int (Sum Unit Unit)):=(bif decide (K1<(d0.length:Int)) then some (decide (K1≤40)) else some (false):Option Bool).bind λG1=>bif G1 then((aq d0 K1).bind λX1=>(iO n X1.cQ).bind λX3=>bif X3 then some (true) else(aq d0 K1).bind λX5=>bif decide ((40:Int)<(X5.cz.length:Int)) then some (true) else(aq d0 K1).bind λX7=>some (decide ((400:Int)<(X7.aE.length:Int))):Option Bool).bind λG2=>bif G2 then some (.br (.inl ())) else(av (iT n d0 K1) n (0:Int)).bind λQ2=>(match Q2 with|.inl G3=>some (.br (.inl ()))|.inr G4=>ar (inR .i64 (K1+1))<|some (.nx (K1+1))) else some (.br (.inr ()))
def iE (n:Nat) (d0:CC):Option Bool:=(av (iR n d0) n (0:Int)).bind λQ1=>(match Q1 with|.inl G5=>some (true)|.inr G6=>some (decide ((40:Int)<(d0.length:Int))))
theorem wI (n:Nat) (d0:CC) (z:Zs):oK ([sX 10 gI (z 0) d0]) [] 90 [wX (z 0) d0] (iE n d0) (λr y=>⟨.bool r,[],[]⟩):=
 fn 61 Tryz.func90 (lp [] {} (λK1 _ _=>{L:=[(3,.int .i64 K1)],ks:=[0]}) (λx z b=>match x with|.inl G5=>{e:=.ret,L:=[(2,.bool true)]}|.inr G6=>{e:=.exit 0,ks:=[0]}) (λK1=>jn (.reg 2) [] (λG1 _ _=>{L:=[(12,.bool G1)],ks:=[0,3]}) (bs [] 9 (rt []) (rt [])) (kA λ_=>br [] (jn (.reg 4) [] (λG2 _ _=>{L:=[(38,.bool G2)],ks:=[0,3]}) (ob (λX1 X2=>ob (λ_ X4=>bs [I 0 1 iw X2,K 1 3,C (mc n X1.cQ) X4 [2,3] [] 5] 21 (rt []) (ob (λ_ X6=>bs [I 0 5 iw X6,K 5 9] 30 (rt []) (ob (λ_ X8=>rt [I 0 9 iw X8,K 9 0]))))))) (kA λ_=>br [] (rt []) (lp [] {} (λK2 _ _=>{L:=[(4,.int .i64 K2)],ks:=[0,3]}) (λx z b=>match x with|.inl G3=>{e:=.ret,L:=[(2,.bool true)]}|.inr G4=>{e:=.exit 2,ks:=[0,3]}) (λK2=>ob (λ_ X10=>br [I 0 13 iw X10,K 13 9] (ob (λ_ X12=>ob (λX13 X14=>ob (λ_ X16=>br [I 0 17 iw X12,K 17 9,I 20 21 aO X14,K 21 0,C (mc n X13) X16 [22,23] [] 24] (rt []) (nd (λO1=>rt [wr 48 O1])))))) (rt []))) (kS (kA λ_=>rt []) (kA λ_=>nd (λO2=>rt [wr 14 O2])))))) (rt []))) (kS (kA λ_=>rt []) (kA λ_=>rt [])))
def ki (n:Nat) (d0:Bool) (d1:bz):Option Bool:=(gh n d1).bind λX1=>bif !(decide (X1=0)) then some (false) else bif d0 then some (decide (d1.aA=2)) else bif decide (d1.aA=3) then(lJ n d1.be).bind λX3=>some (X3) else some (false)
theorem mh (n:Nat) (d0:Bool) (d1:bz) (z:Zs):oK (aO.facts d1 z) [] 187 [.bool d0,aO.ag d1 z] (ki n d0 d1) (λr y=>⟨.bool r,[],[]⟩):=
 fn 20 Tryz.func187 (ob (λ_ X2=>br [bx 2,K 2 0,C (dK n d1) X2 [0,1] [] 3] (rt []) (br [] (rt [K 2 0]) (bs [K 2 0] 15 (ob (λ_ X4=>rt [K 2 3,C (tw n d1.be) X4 [] [] 3])) (rt [])))))
def pJ (n:Nat) (d0:Cz) (d1:bz) (K1:Int):Option (Lp Int (Sum Unit Unit)):=bif decide (K1<(d0.length:Int)) then(aq d0 K1).bind λX1=>(kg n X1 d1).bind λX3=>bif X3 then some (.br (.inl ())) else ar (inR .i64 (K1+1))<|some (.nx (K1+1)) else some (.br (.inr ()))
def kh (n:Nat) (d0:Cz) (d1:bz):Option Bool:=(av (pJ n d0 d1) n (0:Int)).bind λQ2=>(match Q2 with|.inl G1=>some (true)|.inr G2=>some (false))
theorem rD (n:Nat) (d0:Cz) (d1:bz) (z:Zs):oK ([sX 6 aw (z 0) d0]++aO.facts d1 (sh 1 z)) [] 188 [wX (z 0) d0,aO.ag d1 (sh 1 z)] (kh n d0 d1) (λr y=>⟨.bool r,[],[]⟩):=
 fn 18 Tryz.func188 (lp [bx 3] {} (λK1 _ _=>{L:=[(5,.int .i64 K1)],ks:=[0,3]}) (λx z b=>match x with|.inl G1=>{e:=.ret,L:=[(4,.bool true)]}|.inr G2=>{e:=.exit 0}) (λK1=>br [] (ob (λX1 X2=>ob (λ_ X4=>br [Ie 0 4 aO X2,X 5,K 4 0,K 3 0,C (ma n X1 d1) X4 [6,7,1,2] [] 8] (rt []) (nd (λO1=>rt [wr 11 O1]))))) (rt [])) (kS (kA λ_=>rt []) (kA λ_=>rt [])))
def tH (n:Nat) (d0:wO) (K1:Int):Option (Lp Int (Sum Unit Unit)):=bif decide (K1<(d0.cz.length:Int)) then(aq d0.cz K1).bind λX3=>(ki n (d0.kv) X3).bind λX5=>bif !X5 then some (.br (.inl ())) else ar (0≤K1∧K1≤(d0.cz.length:Int))<|(aq d0.cz K1).bind λX7=>(kh n ((d0.cz.take K1.toNat).drop 0) X7).bind λX9=>bif X9 then some (.br (.inl ())) else ar (inR .i64 (K1+1))<|some (.nx (K1+1)) else some (.br (.inr ()))
def sC (n:Nat) (d0:wO):Option Bool:=((pg n d0.aE).bind λX1=>bif !X1 then some (true) else some (decide ((8:Int)<(d0.cz.length:Int))):Option Bool).bind λG1=>bif G1 then some (false) else(av (tH n d0) n (0:Int)).bind λQ2=>(match Q2 with|.inl G2=>some (false)|.inr G3=>bif !d0.Cm then(pn n d0.cQ cU).bind λX11=>some (X11) else(ki n (d0.kv) d0.cQ).bind λX13=>bif X13 then bif decide ((d0.cz.length:Int)=0) then some (true) else(kh n d0.cz d0.cQ).bind λX15=>some (X15) else some (false))
theorem qF (n:Nat) (d0:wO) (z:Zs):oK (iw.facts d0 z) [] 186 [iw.ag d0 z] (sC n d0) (λr y=>⟨.bool r,[],[]⟩):=
 fn 67 Tryz.func186 (jn (.reg 1) [bx 3] (λG1 _ _=>{L:=[(13,.bool G1)],ks:=[1]}) (ob (λ_ X2=>bs [K 3 0,C (yb n d0.aE) X2 [] [] 4] 8 (rt []) (rt [K 3 9]))) (kA λ_=>br [] (rt []) (lp [] {} (λK1 _ _=>{L:=[(3,.int .i64 K1)],ks:=[1]}) (λx z b=>match x with|.inl G2=>{e:=.ret,L:=[(2,.bool false)]}|.inr G3=>{e:=.exit 0,ks:=[1]}) (λK1=>br [K 3 9] (ob (λX3 X4=>ob (λ_ X6=>bh (.reg 6) [Ie 2 4 aO X4] (λB4=>rt [ch [] [(30,⟨cB B4⟩)],K 3 1,K 3 9,X 5,K 4 0,C (mh n (d0.kv) X3) X6 [6,7] [] 8,cd true,cd true,cd true,cd true,cd true,cd true,cd true]) (λB4=>nd (λO1=>ob (λX7 X8=>ob (λ_ X10=>br [Ie 2 9 aO X8,ch [] [(30,⟨cB B4⟩)],K 3 1,K 3 9,X 5,K 4 0,C (mh n (d0.kv) X3) X6 [6,7] [] 8,K 3 9,cG 2 8 aO O1,K 3 9,X 10,K 9 0,C (rD n ((d0.cz.take K1.toNat).drop 0) X7) X10 [8,11,12] [] 13] (rt []) (nd (λO2=>rt [wr 20 O2]))))))))) (rt [])) (kS (kA λ_=>rt []) (kA λ_=>br [K 3 2] (ob (λ_ X12=>rt [K 3 3,nf 13 6 aw,nf 14 1 Dat.str,C (tn n d0.cQ cU) X12 [0,1,13,14] [] 15])) (ob (λ_ X14=>bs [K 3 1,K 3 3,C (mh n (d0.kv) d0.cQ) X14 [0,1] [] 13] 54 (bs [K 3 9] 59 (rt []) (ob (λ_ X16=>rt [K 3 9,K 3 3,C (rD n d0.cz d0.cQ) X16 [2,0,1] [] 13]))) (rt []))))))))
def pG (n:Nat) (d0:CC) (K1:Int):Option (Lp Int (Sum Unit Unit)):=bif decide (K1<(d0.length:Int)) then(aq d0 K1).bind λX1=>(sC n X1).bind λX3=>bif !X3 then some (.br (.inl ())) else bif decide ((0:Int)<K1) then ar (inR .i64 (K1-1))<|(aq d0 (K1-1)).bind λX5=>(aq d0 K1).bind λX7=>bif !(Op.bytesLess X5.aE X7.aE) then some (.br (.inl ())) else ar (inR .i64 (K1+1))<|some (.nx (K1+1)) else ar (inR .i64 (K1+1))<|some (.nx (K1+1)) else some (.br (.inr ()))
def qE (n:Nat) (d0:CC):Option Int:=bif decide ((6:Int)<(d0.length:Int)) then some (3:Int) else(av (pG n d0) n (0:Int)).bind λQ1=>(match Q1 with|.inl G1=>some (2:Int)|.inr G2=>some (0:Int))
theorem ref14_Check_C (n:Nat) (d0:CC) (z:Zs):oK ([sX 10 gI (z 0) d0]) [] 122 [wX (z 0) d0] (qE n d0) (λr y=>⟨.int .i64 r,[],[]⟩):=
 fn 37 Tryz.func122 (br [] (rt []) (lp [] {} (λK1 _ _=>{L:=[(3,.int .i64 K1)],ks:=[0]}) (λx z b=>match x with|.inl G1=>{e:=.ret,L:=[(2,.int .i64 2)]}|.inr G2=>{e:=.exit 0}) (λK1=>br [] (ob (λX1 X2=>ob (λ_ X4=>bh (.reg 6) [Ie 0 1 iw X2] (λB3=>rt [ch [] [(19,⟨cB B3⟩)],X 2,K 1 0,C (qF n X1) X4 [3,4,5] [] 6,cd true,cd true,cd true,cd true,cd true]) (λB3=>bh (.reg 6) [] (λB4=>nd (λO1=>ob (λ_ X6=>ob (λ_ X8=>br [Ie 0 6 iw X6,Ie 0 11 iw X8,ch [] [(19,⟨cB B3⟩),(22,⟨cB B4⟩),(25,⟨congrArg (Value.int .i64) (cD O1)⟩)],X 2,K 1 0,C (qF n X1) X4 [3,4,5] [] 6,X 7,K 6 0,X 12,K 11 0] (rt []) (nd (λO2=>rt [wr 12 O2])))))) (λB4=>nd (λO3=>rt [ch [] [(19,⟨cB B3⟩),(22,⟨cB B4⟩)],X 2,K 1 0,C (qF n X1) X4 [3,4,5] [] 6,cd true,cd true,cd true,cd true,cd false,wr 12 O3])))))) (rt [])) (kS (kA λ_=>rt []) (kA λ_=>rt []))))
def rC (n:Nat) (d0:Cp) (K1:Int):Option (Lp Int (Sum Unit Unit)):=bif decide (K1<(d0.length:Int)) then ar (inR .i64 (K1-1))<|(aq d0 (K1-1)).bind λX1=>(aq d0 K1).bind λX3=>bif !(Op.bytesLess X1.aE X3.aE) then some (.br (.inl ())) else ar (inR .i64 (K1+1))<|some (.nx (K1+1)) else some (.br (.inr ()))
def tE (n:Nat) (d0:Cp):Option Bool:=(av (rC n d0) n (1:Int)).bind λQ1=>(match Q1 with|.inl G1=>some (false)|.inr G2=>some (true))
theorem ref14_Rise_C (n:Nat) (d0:Cp) (z:Zs):oK ([sX 8 aj (z 0) d0]) [] 123 [wX (z 0) d0] (tE n d0) (λr y=>⟨.bool r,[],[]⟩):=
 fn 22 Tryz.func123 (lp [] {} (λK1 _ _=>{L:=[(3,.int .i64 K1)],ks:=[0]}) (λx z b=>match x with|.inl G1=>{e:=.ret,L:=[(2,.bool false)]}|.inr G2=>{e:=.exit 0}) (λK1=>br [] (nd (λO1=>ob (λ_ X2=>ob (λ_ X4=>br [Ie 0 1 bc X2,Ie 0 5 bc X4,ch [] [(12,⟨congrArg (Value.int .i64) (cD O1)⟩)],X 2,K 1 0,X 6,K 5 0] (rt []) (nd (λO2=>rt [wr 9 O2])))))) (rt [])) (kS (kA λ_=>rt []) (kA λ_=>rt [])))
def rB (n:Nat) (d0:Cp) (d1:Bs) (K1:Int×aG):Option (Lp (Int×aG) (Sum aG aG)):=bif decide (K1.1<(d0.length:Int)) then(aq d0 K1.1).bind λX1=>bif decide (X1.aE=d1) then(aq d0 K1.1).bind λX3=>some (.br (.inl X3)) else ar (inR .i64 (K1.1+1))<|some (.nx (K1.1+1,K1.2)) else some (.br (.inr K1.2))
def pH (n:Nat) (d0:Cp) (d1:Bs):Option (aG×Bool):=(av (rB n d0 d1) n ((0:Int),(⟨([]:Bs),(false),cU⟩:aG))).bind λQ2=>(match Q2 with|.inl G1=>some (G1,(true))|.inr G2=>some ((⟨([]:Bs),(false),cU⟩:aG),(false)))
theorem yg (n:Nat) (d0:Cp) (d1:Bs) (z:Zs):oK ([sX 8 aj (z 0) d0]) [] 124 [wX (z 0) d0,S d1] (pH n d0 d1) (λr y=>⟨.tuple #[bc.ag r.1 y,.bool r.2],[],bc.facts r.1 y⟩):=
 fn 25 Tryz.func124 (lp [al 1,nf 2 6 aw,nf 3 1 Dat.str] {is:=[2,3]} (λK1 z _=>{L:=[(6,.int .i64 K1.1)],ks:=[0,1,4],o:=[(1,.cells (bc.cells K1.2 z).toArray 186 (0,0))],F:=nums 4 (bc.facts K1.2 z)}) (λx z b=>match x with|.inl G1=>{e:=.ret,L:=[(5,.bool true)],ks:=[4],o:=[(1,.cells (bc.cells G1 z).toArray 186 (0,0))],F:=nums 12 (bc.facts G1 z)}|.inr G2=>{e:=.exit 0,ks:=[4],o:=[(1,.cells (bc.cells G2 z).toArray 186 (0,0))],F:=nums 12 (bc.facts G2 z)}) (λK1=>br [] (ob (λ_ X2=>br [I 0 6 bc X2,K 6 0] (ob (λ_ X4=>rt [I 0 9 bc X4,K 9 0,Sn 1] {is:=[10,11]})) (nd (λO1=>rt [wr 12 O1] {is:=[4,5]})))) (rt [] {is:=[4,5]})) (kS (kA λ_=>rt [] {is:=[12,13],rk:=[1,0]}) (kA λ_=>rt [Sn 1,nf 14 6 aw,nf 15 1 Dat.str] {is:=[14,15],rk:=[1,0]})))
def sB (n:Nat) (d0:wO) (d1:aG):Option Bool:=(sC n d0).bind λX1=>bif !X1 then some (false) else bif d1.dw then(bif !d0.kv then bif decide ((d0.cz.length:Int)=0) then(pn n d1.fV cU).bind λX3=>some (X3) else some (false) else some (false):Option Bool).bind λG1=>some (G1) else(ki n (d0.kv) d1.fV).bind λX5=>bif X5 then bif decide ((d0.cz.length:Int)=0) then some (true) else(kh n d0.cz d1.fV).bind λX7=>some (X7) else some (false)
theorem zK (n:Nat) (d0:wO) (d1:aG) (z:Zs):oK (iw.facts d0 z++bc.facts d1 (sh 3 z)) [] 125 [iw.ag d0 z,bc.ag d1 (sh 3 z)] (sB n d0 d1) (λr y=>⟨.bool r,[],[]⟩):=
 fn 43 Tryz.func125 (ob (λ_ X2=>br [bx 5,bx 6,K 5 0,C (qF n d0) X2 [0,1,2] [] 7] (rt []) (br [K 6 1] (jn (.reg 4) [] (λG1 _ _=>{L:=[(4,.bool G1)]}) (bs [K 5 1] 13 (bs [K 5 9] 19 (ob (λ_ X4=>rt [K 6 2,nf 7 6 aw,nf 8 1 Dat.str,C (tn n d1.fV cU) X4 [3,4,7,8] [] 9])) (rt [])) (rt [])) (kA λ_=>rt [])) (ob (λ_ X6=>bs [K 5 1,K 6 2,C (mh n (d0.kv) d1.fV) X6 [3,4] [] 7] 30 (bs [K 5 9] 35 (rt []) (ob (λ_ X8=>rt [K 5 9,K 6 2,C (rD n d0.cz d1.fV) X8 [2,3,4] [] 7]))) (rt []))))))
def rz (n:Nat) (d0:CC) (d1:Cp) (K1:Int) (K2:Bool×Int):Option (Lp (Bool×Int) Bool):=bif decide (K2.2<(d0.length:Int)) then bif K2.1 then ar (inR .i64 (K2.2+1))<|some (.nx ((true),K2.2+1)) else(aq d0 K2.2).bind λX5=>(aq d1 K1).bind λX7=>ar (inR .i64 (K2.2+1))<|some (.nx ((decide (X5.aE=X7.aE)),K2.2+1)) else some (.br (K2.1))
def ry (n:Nat) (d0:CC) (d1:Cp) (K1:Int):Option (Lp Int (Sum Bs Unit)):=bif decide (K1<(d1.length:Int)) then(av (rz n d0 d1 K1) n ((false),(0:Int))).bind λG1=>bif !G1 then(aq d1 K1).bind λX9=>some (.br (.inl X9.aE)) else ar (inR .i64 (K1+1))<|some (.nx (K1+1)) else some (.br (.inr ()))
def rA (n:Nat) (d0:CC) (d1:Cp) (K3:Cp×Int):Option (Lp (Cp×Int) (Sum Bs Cp)):=bif decide (K3.2<(d0.length:Int)) then(aq d0 K3.2).bind λX12=>(pH n d1 X12.aE).bind λX14=>(bif !X14.2 then(aq d0 K3.2).bind λX16=>some (!X16.Cm) else some (false):Option Bool).bind λG4=>bif G4 then(aq d0 K3.2).bind λX18=>some (.br (.inl X18.aE)) else(bif !X14.2 then(aq d0 K3.2).bind λX20=>(aq d0 K3.2).bind λX22=>some (⟨X20.aE,(false),X22.cQ⟩:aG) else some (X14.1):Option aG).bind λG5=>(aq d0 K3.2).bind λX24=>(sB n X24 G5).bind λX26=>bif !X26 then(aq d0 K3.2).bind λX28=>some (.br (.inl X28.aE)) else ar ((K3.1.length+1)*104≤140737488355328)<|ar (inR .i64 (K3.2+1))<|some (.nx (K3.1++[G5],K3.2+1)) else some (.br (.inr K3.1))
def iQ (n:Nat) (d0:CC) (d1:Cp):Option (Cp×Bs×Int):=(qE n d0).bind λX1=>bif !(decide (X1=0)) then some (([]:Cp),([]:Bs),X1) else(tE n d1).bind λX3=>bif !X3 then some (([]:Cp),([]:Bs),(2:Int)) else(av (ry n d0 d1) n (0:Int)).bind λQ1=>(match Q1 with|.inl G2=>some (([]:Cp),G2,(140:Int))|.inr G3=>(av (rA n d0 d1) n (([]:Cp),(0:Int))).bind λQ3=>(match Q3 with|.inl G6=>some (([]:Cp),G6,(140:Int))|.inr G7=>some (G7,([]:Bs),(0:Int))))
set_option maxRecDepth 20000 in
theorem tD (n:Nat) (d0:CC) (d1:Cp) (z:Zs):oK ([sX 10 gI (z 0) d0,sX 8 aj (z 1) d1]) [] 60 [wX (z 0) d0,wX (z 1) d1] (iQ n d0 d1) (λr y=>⟨.tuple #[wX (y 1) r.1,S r.2.1,.int .i64 r.2.2],[rX 186 8 (y 1) r.1],[qX 8 aj (y 1) r.1]⟩):=
 fn 117 Tryz.func60 (ob (λ_ X2=>br [C (ref14_Check_C n d0) X2 [0] [] 2] (rt [nr 2 3 186 bc] {is:=[3],js:=[2]}) (ob (λ_ X4=>br [C (ref14_Rise_C n d1) X4 [1] [] 2] (rt [nr 2 3 186 bc] {is:=[3],js:=[2]}) (lp [] {} (λK1 _ _=>{L:=[(8,.int .i64 K1)],ks:=[0,1]}) (λx z b=>match x with|.inl G2=>{e:=.ret,L:=[(5,S G2),(4,.slice none 0 0),(6,.int .i64 140)]}|.inr G3=>{e:=.exit 0,ks:=[0,1]}) (λK1=>br [] (lp [] {} (λK2 _ _=>{L:=[(9,.bool K2.1),(10,.int .i64 K2.2)],ks:=[0,1,8]}) (λG1 _ _=>{e:=.exit 2,L:=[(9,.bool G1)],ks:=[0,1,8]}) (λK2=>br [] (bh (.reg 13) [] (λB5=>nd (λO1=>rt [ch [] [(36,⟨cB B5⟩)],cd true,cd true,cd true,cd true,wr 34 O1])) (λB5=>ob (λ_ X6=>ob (λ_ X8=>nd (λO2=>rt [Ie 0 2 iw X6,Ie 1 7 bc X8,ch [] [(36,⟨cB B5⟩)],X 3,K 2 0,X 8,K 7 0,wr 34 O2]))))) (rt [])) (kA λ_=>br [] (ob (λ_ X10=>rt [Ie 1 11 bc X10,X 12,K 11 0])) (nd (λO3=>rt [wr 28 O3])))) (rt [])) (kS (kA λ_=>rt [nr 15 16 186 bc] {is:=[16],js:=[15]}) (kA λ_=>lp [nr 15 16 186 bc] {is:=[16],js:=[15]} (λK3 z _=>{L:=[(11,(z 1).sl K3.1.length),(12,.int .i64 K3.2)],ks:=[0,1],E:=[(18,rX 186 8 (z 1) K3.1)],x:=[15],F:=[(17,qX 8 aj (z 1) K3.1)]}) (λx z b=>match x with|.inl G6=>{e:=.ret,L:=[(5,S G6),(4,.slice none 0 0),(6,.int .i64 140)],x:=[15]}|.inr G7=>{e:=.exit 4,L:=[(11,(z 1).sl G7.length)],E:=[(53,rX 186 8 (z 1) G7)],x:=[15],F:=[(52,qX 8 aj (z 1) G7)]}) (λK3=>br [] (ob (λX12 X13=>ob (λ_ X15=>jn (.reg 21) [I 0 19 iw X13,K 19 0,C (yg n d1 X12.aE) X15 [1] [] 23,al 25,Sn 25] (λG4 _ _=>{L:=[(81,.bool G4)],ks:=[0,1,11,12,13,14]}) (bs [] 74 (ob (λ_ X17=>rt [I 0 26 iw X17,K 26 2])) (rt [])) (kA λ_=>br [] (ob (λ_ X19=>rt [Ie 0 30 iw X19,X 31,K 30 0])) (jn .no [] (λG5 z _=>{ks:=[0,1,11,12,13],o:=[(25,.cells (bc.cells G5 z).toArray 186 (0,0))],F:=nums 40 (bc.facts G5 z)}) (br [] (ob (λ_ X21=>ob (λ_ X23=>rt [Ie 0 30 iw X21,Ie 0 35 iw X23,ch [25] [],X 31,K 30 0,X 36,K 35 3,Sn 25] {is:=[37,38]}))) (rt [] {is:=[23,24]})) (kA λG5=>ob (λX24 X25=>ob (λ_ X27=>br [Ie 0 42 iw X25,X 43,K 42 0,O 25,C (zK n X24 G5) X27 [44,45,46,40,41] [] 47] (ob (λ_ X29=>rt [Ie 0 47 iw X29,X 48,K 47 0])) (nd (λO4=>nd (λO5=>rt [O 25,ao 47,lk 47 48 bc [(G5,[40,41])],ap (ys:=[G5]) 18 17 48 49 bc O4,wr 61 O5] {is:=[49],js:=[18]}))))))))))) (rt [] {is:=[17],js:=[18]})) (kS (kA λ_=>rt [nr 52 53 186 bc] {is:=[53],js:=[52]}) (kA λ_=>rt [] {is:=[52],js:=[53]})))))))))
variable {n:Nat}
theorem short05 (hn:10000000000001<n): ∀ (k m:Nat) (x:bz),m≤k→Wf m x→dsz (aw x)≤10000000000000→Tot (gB n k x) λr=>r.length+12≤12*dsz (aw x)
 |0,m+1,x,h,h1,_=>by omega
 |0,0,x,h,h1,_=>h1.elim
 |k+1,0,x,h,h1,_=>h1.elim
 |k+1,m+1,x,hk,hx,hz=>by
  have hp:_∧_:=Sz.p x
  obtain⟨hx1,hx2,hx3,hx4⟩:=hx
  haveI: ∀a,Tt (gB n k a) (Wf m a∧dsz (aw a)≤10000000000000) (λr=>r.length+12≤12*dsz (aw a)):=λa=>⟨λh=>short05 hn k m a (by omega) h.1 h.2⟩
  unfold gB rx
  refine Tot.b (Tot.m (R:=λ_=>True) tgo λb _=>Tot.c (λ_=>Tot.cl (by omega) λr hr=>Tot.s hr) λ_=>?_)
  refine Tot.b (Tot.m (R:=λy=>y.length=1) (Tot.cd (λ_=>Tot.s rfl) λ_=>Tot.s rfl) λy hy=>?_)
  refine Tot.b (Tot.m (R:=λr=>r.length≤1+12*dszs (x.bu.map aw)+6*dszs (x.bU.map Dat.str)) (Tot.li (λs=>s.2) (λs=>s.2≤x.bu.length∧s.1.length≤1+12*dszs ((x.bu.take s.2.toNat).map aw)+6*dszs ((x.bU.take s.2.toNat).map Dat.str)) x.bu.length (by omega) (by simp[dszs,hy]) λs h1 ⟨g1,g2⟩=>?_) λr hr=>?_)
  ·unfold vz
   have e: (s.2+1).toNat=s.2.toNat+1:=by omega
   have b1:=lA (xs:=x.bU) s.2.toNat
   have b2:=lA (xs:=x.bu) s.2.toNat
   have b3:=lA (xs:=x.bu) (s.2.toNat+1)
   have b4:=lA (xs:=x.bU) (s.2.toNat+1)
   simp only[Sz.f,zz,zl] at*
   refine Tot.cd (λh2=>?_) λh2=>Tot.sb ?_
   ·refine Tot.b (Tot.m (R:=λy=>y.length≤s.1.length+1) (Tot.cd (λ_=>Tot.n (by simp;omega) (Tot.s (by simp))) λ_=>Tot.s (by simp)) λy3 h3=>?_)
    refine Tot.b (Tot.m (R:=λy=>y.length+6*dszs ((x.bU.take s.2.toNat).map Dat.str)≤y3.length+6*dszs ((x.bU.take (s.2.toNat+1)).map Dat.str)∧dszs ((x.bU.take s.2.toNat).map Dat.str)≤dszs ((x.bU.take (s.2.toNat+1)).map Dat.str)) (Tot.cd (λh4=>?_) λh4=>Tot.s ⟨?_,?_⟩) λy4 h4=>?_)
    ·have:=hx2 h4
     refine Tot.b (Tot.gt ⟨h1,by omega⟩ λc hc ht=>?_)
     have a2:=ht Dat.str
     have a1:=dZ hc
     simp only[Sz.f,zz,zl,dsz] at*
     exact Tot.cl (by omega) λq hq=>Tot.n (by omega) (Tot.n (by simp;omega) (Tot.s ⟨by simp only[List.length_append,List.length_cons,List.length_nil];omega,by omega⟩))
    ·have:=zl_tk1 x.bU s.2.toNat
     simp only[Sz.f,zz,zl] at*
     omega
    ·have:=zl_tk1 x.bU s.2.toNat
     simp only[Sz.f,zz,zl] at*
     omega
    refine Tot.b (Tot.gt ⟨h1,h2⟩ λc hc ht=>?_)
    have a2:=ht aw
    have a1:=dZ hc
    simp only[Sz.f,zz,zl] at*
    exact Tot.cl ⟨hx4 c hc,by omega⟩ λr hr=>Tot.n (by omega) (Tot.i (by omega) (Tot.sn ⟨by omega,by omega,by dsimp only;omega,by simp only[List.length_append];rw[e];omega⟩))
   omega
  exact Tot.cd (λ_=>Tot.n (by simp;omega) (Tot.s (by simp;omega))) λ_=>Tot.n (by simp;omega) (Tot.s (by simp;omega))
instance {v:bz}:Tt (wv n v) (10000000000001<n∧dsz (aw v)≤10000000000000) λr=>0≤r:=⟨λ ⟨hn,hz⟩=>by
 haveI: ∀s,Tt (me n s) True λ_=>True:=λs=>⟨λ_=>by unfold me;exact tgo⟩
 unfold wv vx
 refine Tot.b (Tot.cl ⟨hn,hz⟩ λa ha=>Tot.cn (Tot.cd (λh=>?_) λh=>Tot.s (Tot.s (by simp))))
 unfold tt
 refine Tot.b (Tot.cl ⟨hn,hz⟩ λb hb=>Tot.cn (Tot.cd (λh'=>?_) λh'=>Tot.s ?_))
 · exact(sort03 hn n n v (by omega) (ha h) hz).k λu hu=>Tot.s ((short05 hn n n u (by omega) hu.1 (by omega)).k λs _=>Tot.cl trivial λ_ _=>Tot.s (Tot.s (by omega)))
 · exact(short05 hn n n v (by omega) (ha h) hz).k λs _=>Tot.cl trivial λ_ _=>Tot.s (Tot.s (by omega))⟩
instance {k:Bs}:Tt (gV n k) True λr=>r.1.length≤4∧(r.2=0→k.length≤10):=⟨λ_=>by
 unfold gV
 exact Tot.cd (λh=>Tot.s (by subst h;simp)) λ_=>Tot.cd (λh=>Tot.s (by subst h;simp)) λ_=>Tot.cd (λh=>Tot.s (by subst h;simp)) λ_=>Tot.cd (λh=>Tot.s (by subst h;simp)) λ_=>Tot.s (by simp)⟩
instance {k p:Bs}:Tt (pC n k p) (100<n) λ_=>True:=⟨λhn=>by
 unfold pC
 refine Tot.cl trivial λr hr=>?_
 refine Tot.b (Tot.m (R:=λ_=>True) (Tot.li (λs=>s.1) (λ_=>True) r.1.length (by omega) (by simp) λs h1 _=>by unfold wV;exact tgo) λb _=>?_)
 cases b<;>exact Tot.s trivial⟩
instance {v:bz} {k:Int}:Tt (qD n v k) (10000000000001<n∧dsz (aw v)≤10000000000000) λ_=>True:=⟨λ ⟨hn,hz⟩=>by
 have hp:_∧_:=Sz.p v
 haveI:Tt (av (pE n v) n (0:Int)) True λ_=>True:=⟨λ_=>Tot.li (λs=>s) (λ_=>True) v.bu.length (by omega) (by simp) λs h1 _=>by unfold pE;exact tgo⟩
 unfold qD;exact tgo⟩
def GsOK (l:Cp):Prop:=l.length≤1000000000∧∀g∈l,dsz (aw g.fV)≤10000000000000
instance {k:Bs} {l:List aG}:Tt (iP n k l) (10000000000001<n∧GsOK l) λ_=>True:=⟨λ ⟨hn,hl,hg⟩=>by
 haveI:Tt (av (pA n k l) n (0:Int)) True λ_=>True:=⟨λ_=>Tot.li (λs=>s) (λ_=>True) l.length (by omega) (by simp) λs h1 _=>by
  unfold pA
  refine Tot.cd (λh2=>Tot.b (Tot.g ⟨h1,h2⟩ λg hm=>?_)) λ_=>Tot.sb trivial
  refine Tot.cl (by omega) λr _=>Tot.b (Tot.m (R:=λ_=>True) tgo λ_ _=>Tot.c (λ_=>Tot.sb trivial) λ_=>Tot.b (Tot.g ⟨h1,h2⟩ λg hm=>Tot.c (λ_=>?_) λ_=>?_))
  · refine Tot.b (Tot.m (R:=λ_=>True) (Tot.cd (λ_=>Tot.s trivial) λ_=>Tot.b (Tot.g ⟨h1,h2⟩ λg hm=>Tot.cl ⟨hn,hg g hm⟩ λ_ _=>Tot.s trivial)) λ_ _=>tgo)
  · exact Tot.b (Tot.g ⟨h1,h2⟩ λg hm=>Tot.cl ⟨hn,hg g hm⟩ λ_ _=>tgo)⟩
 unfold iP;exact tgo⟩
instance {k p a:Bs}:Tt (jW n k p a) (p.length≤1000000000000) λr=>r.2=0→(a=[65,114,110]→r.1.length≤k.length+1+p.length)∧(a≠ [65,114,110]→r.1.length≤1):=⟨λhp=>by
 unfold jW
 refine Tot.cl trivial λr hr=>Tot.cn (Tot.cd (λh=>?_) λh=>Tot.s (λh'=>(h h').elim))
 have:=hr.2 h
 refine Tot.cd (λh1=>Tot.n (by simp;omega) (Tot.n (by simp;omega) (Tot.s (λ_=>⟨λ_=>by simp;omega,λh2=>(h2 h1).elim⟩)))) λh1=>Tot.cd (λ_=>Tot.i (by omega) (Tot.n (by omega) (Tot.s (λ_=>⟨λh=>(h1 h).elim,λ_=>by simp only[List.length_drop];omega⟩)))) λ_=>Tot.s (by simp)⟩
theorem uo:dsz (aw cU)≤10:=by have hp:_∧_:=Sz.p cU;simp[dszs] at hp;omega
instance {l:List aG} {k:Bs}:Tt (sA n l k) (10000000000001<n∧GsOK l) λr=>dsz (aw r.1.fV)≤10000000000000:=⟨λ ⟨hn,hl,hg⟩=>by
 have hz:=uo
 haveI: ∀g,Tt (av (tA n l k) n ((0:Int),g)) True λb=>match b with|.inl g=>g∈l|.inr _=>True:=λg=>⟨λ_=>Tot.li (λs=>s.1) (λ_=>True) l.length (by omega) (by simp) λs h1 _=>by unfold tA;exact tgo⟩
 unfold sA
 refine Tot.cl trivial λb hb=>?_
 cases b with
 |inl g=>exact Tot.s (hg g hb)
 |inr g=>exact Tot.s (by dsimp only;omega)⟩
instance {k:Bs} {a b:List aG}:Tt (ov n k a b) (10000000000001<n∧GsOK a∧GsOK b) λ_=>True:=⟨λ ⟨hn,ha,hb⟩=>by
 haveI:Tt (av (ny n a) n (0:Int)) True λ_=>True:=⟨λ_=>Tot.li (λs=>s) (λ_=>True) a.length (by have:=ha.1;omega) (by simp) λs h1 _=>by have:=ha.1;unfold ny;exact tgo⟩
 haveI: ∀x:List uW×Int,Tt (av (nA n a b x) n ((0:Int),(0:Int))) (x.1.length≤4) λ_=>True:=λx=>⟨λh=>Tot.li (λs=>s.2) (λ_=>True) x.1.length (by omega) (by simp) λs h1 _=>by unfold nA;exact tgo⟩
 unfold ov;exact tgo⟩
instance {l:List aG}:Tt (mE n l) (10000000000001<n∧GsOK l) λ_=>True:=⟨λ ⟨hn,hl,hg⟩=>by
 haveI:Tt (av (pD n l) n (0:Int)) True λ_=>True:=⟨λ_=>Tot.li (λs=>s) (λ_=>True) l.length (by omega) (by simp) λs h1 _=>by
  unfold pD
  refine Tot.cd (λh2=>Tot.b (Tot.g ⟨h1,h2⟩ λg hm=>Tot.cd (λ_=>Tot.sb trivial) λ_=>Tot.b (Tot.g ⟨h1,h2⟩ λg hm=>?_))) λ_=>Tot.sb trivial
  have:=hg g hm
  exact tgo⟩
 unfold mE;exact tgo⟩
def PmOK (p:wO):Prop:=p.aE.length≤10000000000∧p.cz.length≤1000000000∧dsz (aw p.cQ)≤10000000000000∧∀v∈p.cz,dsz (aw v)≤10000000000000
def PsOK (l:CC):Prop:=l.length≤1000000000∧∀p∈l,PmOK p
instance {l:List aG}:Tt (mG n l) (10000000000001<n∧GsOK l) λ_=>True:=⟨λ ⟨hn,hl,hg⟩=>by
 haveI:Tt (av (pI n l) n (0:Int)) True λ_=>True:=⟨λ_=>Tot.li (λs=>s) (λ_=>True) l.length (by omega) (by simp) λs h1 _=>by
  unfold pI
  refine Tot.b (Tot.m (R:=λb=>b=true→s<l.length) (Tot.cd (λh=>Tot.s λ_=>h) λ_=>Tot.s (by simp)) λb hb=>Tot.c (λh=>?_) λ_=>Tot.sb trivial)
  have h2:=hb h
  refine Tot.b (Tot.g ⟨h1,h2⟩ λg hm=>?_)
  have:=hg g hm
  exact tgo⟩
 unfold mG;exact tgo⟩
instance {l:List wO}:Tt (iE n l) (10000000000001<n∧PsOK l) λ_=>True:=⟨λ ⟨hn,hl,hg⟩=>by
 haveI: ∀i,Tt (av (iT n l i) n (0:Int)) (0≤i∧i<l.length) λ_=>True:=λi=>⟨λhi=>Tot.li (λs=>s) (λs=>s≤1000000000) 1000000000 (by omega) (by simp) λs h1 _=>by
  unfold iT
  refine Tot.b (Tot.gy hi λp he hp=>?_)
  obtain⟨_,g2,_,g4⟩:=hg p hp
  refine Tot.cd (λh2=>Tot.b (Tot.ge he (Tot.b (Tot.gy ⟨h1,h2⟩ λv _ hv=>?_)))) λ_=>Tot.sb trivial
  have:=g4 v hv
  exact tgo⟩
 haveI:Tt (av (iR n l) n (0:Int)) True λ_=>True:=⟨λ_=>Tot.li (λs=>s) (λ_=>True) l.length (by omega) (by simp) λs h1 _=>by
  unfold iR
  refine Tot.b (Tot.m (R:=λb=>b=true→s<l.length) (Tot.cd (λh=>Tot.s λ_=>h) λ_=>Tot.s (by simp)) λb hb=>Tot.c (λh=>?_) λ_=>Tot.sb trivial)
  have h2:=hb h
  refine Tot.b (Tot.m (R:=λ_=>True) (Tot.b (Tot.gy ⟨h1,h2⟩ λp he hp=>?_)) λb _=>tgo)
  obtain⟨_,g2,g3,g4⟩:=hg p hp
  exact tgo⟩
 unfold iE;exact tgo⟩
instance {b:Bool} {v:bz}:Tt (ki n b v) (10000000000001<n∧dsz (aw v)≤10000000000000) λr=>r=true→v.aA=2∨v.aA=3:=⟨λ ⟨hn,h⟩=>by
 unfold ki
 refine Tot.cl ⟨hn,h⟩ λe _=>Tot.cn (Tot.cd (λ_=>Tot.c (λ_=>Tot.s (by simp;omega)) λ_=>Tot.cd (λh3=>Tot.cl hn λ_ _=>Tot.s (λ_=>.inr h3)) λ_=>Tot.s (by simp)) λ_=>Tot.s (by simp))⟩
instance {l:List bz} {v:bz}:Tt (kh n l v) (10000000000001<n∧l.length≤1000000000∧(∀x∈l,dsz (aw x)≤10000000000000)∧dsz (aw v)≤10000000000000) λ_=>True:=⟨λ ⟨hn,hl,hx,hv⟩=>by
 haveI:Tt (av (pJ n l v) n (0:Int)) True λ_=>True:=⟨λ_=>Tot.li (λs=>s) (λ_=>True) l.length (by omega) (by simp) λs h1 _=>by
  unfold pJ
  refine Tot.cd (λh2=>Tot.b (Tot.gy ⟨h1,h2⟩ λx _ hm=>?_)) λ_=>Tot.sb trivial
  have:=hx x hm
  exact tgo⟩
 unfold kh;exact tgo⟩
instance {p:wO}:Tt (sC n p) (10000000000001<n∧PmOK p) λ_=>True:=⟨λ ⟨hn,h1,h2,h3,h4⟩=>by
 have hz:=uo
 haveI:Tt (av (tH n p) n (0:Int)) True λ_=>True:=⟨λ_=>Tot.li (λs=>s) (λ_=>True) p.cz.length (by omega) (by simp) λs g1 _=>by
  unfold tH
  refine Tot.cd (λg2=>Tot.b (Tot.gy ⟨g1,g2⟩ λx he hm=>?_)) λ_=>Tot.sb trivial
  have:=h4 x hm
  refine Tot.cl ⟨hn,this⟩ λ_ _=>Tot.cn (Tot.c (λ_=>Tot.n (by omega) (Tot.b (Tot.ge he (Tot.cl ⟨hn,by simp;omega,λy hy=>h4 y (List.mem_of_mem_take (List.mem_of_mem_drop hy)),this⟩ λ_ _=>tgo)))) λ_=>Tot.sb trivial)⟩
 unfold sC;exact tgo⟩
instance {p:wO} {g:aG}:Tt (sB n p g) (10000000000001<n∧PmOK p∧dsz (aw g.fV)≤10000000000000) λr=>r=true→g.dw=true∨g.fV.aA=2∨g.fV.aA=3:=⟨λ ⟨hn,hp,hg⟩=>by
 obtain⟨h1,h2,h3,h4⟩:=hp
 unfold sB
 refine Tot.cl ⟨hn,h1,h2,h3,h4⟩ λ_ _=>Tot.cn (Tot.c (λ_=>Tot.c (λh=>?_) λ_=>Tot.cl ⟨hn,hg⟩ λb hb=>Tot.c (λh=>?_) λ_=>Tot.s (by simp)) λ_=>Tot.s (by simp))
 · exact Tot.b (Tot.m (R:=λ_=>True) tgo λ_ _=>Tot.s (λ_=>.inl h))
 · have:=hb h
   exact Tot.cd (λ_=>Tot.s (λ_=>.inr this)) λ_=>Tot.cl ⟨hn,h2,h4,hg⟩ λ_ _=>Tot.s (λ_=>.inr this)⟩
instance {l:List wO}:Tt (qE n l) (10000000000001<n∧PsOK l) λ_=>True:=⟨λ ⟨hn,hl,hg⟩=>by
 haveI:Tt (av (pG n l) n (0:Int)) True λ_=>True:=⟨λ_=>Tot.li (λs=>s) (λ_=>True) l.length (by omega) (by simp) λs h1 _=>by
  unfold pG
  refine Tot.cd (λh2=>Tot.b (Tot.gy ⟨h1,h2⟩ λp he hp=>Tot.cl ⟨hn,hg p hp⟩ λ_ _=>Tot.cn (Tot.c (λ_=>?_) λ_=>Tot.sb trivial))) λ_=>Tot.sb trivial
  exact tgo⟩
 unfold qE;exact tgo⟩
instance {l:List aG}:Tt (tE n l) (10000000000001<n∧l.length≤1000000000) λ_=>True:=⟨λ ⟨hn,hl⟩=>by
 haveI:Tt (av (rC n l) n (1:Int)) True λ_=>True:=⟨λ_=>Tot.li (λs=>s) (λs=>1≤s) l.length (by omega) (by simp) λs h1 _=>by unfold rC;exact tgo⟩
 unfold tE;exact tgo⟩
instance {l:List aG} {k:Bs}:Tt (pH n l k) (10000000000001<n∧l.length≤1000000000) λr=>(r.2=true→r.1∈l)∧(r.2=false→r.1.fV=cU):=⟨λ ⟨hn,hl⟩=>by
 haveI: ∀g,Tt (av (rB n l k) n ((0:Int),g)) True λb=>match b with|.inl g=>g∈l|.inr _=>True:=λg=>⟨λ_=>Tot.li (λs=>s.1) (λ_=>True) l.length (by omega) (by simp) λs h1 _=>by unfold rB;exact tgo⟩
 unfold pH
 refine Tot.cl trivial λb hb=>?_
 cases b with
 |inl g=>exact Tot.s ⟨λ_=>hb,by simp⟩
 |inr g=>exact Tot.s (by simp)⟩
def BdOK (l:Cp):Prop:=l.length≤1000000000∧∀g∈l,dsz (aw g.fV)≤10000000000000∧(g.dw=true∨g.fV.aA=2∨g.fV.aA=3)
def From (l:CC) (gs:Cp) (g:aG):Prop:=g∈gs∨∃p∈l,g.fV=p.cQ
instance {l:List wO} {gs:List aG}:Tt (iQ n l gs) (10000000000001<n∧PsOK l∧GsOK gs) λr=>BdOK r.1∧∀g∈r.1,From l gs g:=⟨λ ⟨hn,⟨hl,hp⟩,hg,hv⟩=>by
 haveI: ∀i,Tt (av (rz n l gs i) n ((false),(0:Int))) (0≤i∧i<gs.length) λ_=>True:=λi=>⟨λhi=>Tot.li (λs=>s.2) (λ_=>True) l.length (by omega) (by simp) λs h1 _=>by unfold rz;exact tgo⟩
 haveI:Tt (av (ry n l gs) n (0:Int)) True λ_=>True:=⟨λ_=>Tot.li (λs=>s) (λ_=>True) gs.length (by omega) (by simp) λs h1 _=>by unfold ry;exact tgo⟩
 haveI:Tt (av (rA n l gs) n (([]:List aG),(0:Int))) True λb=>match b with|.inl _=>True|.inr r=>BdOK r∧∀g∈r,From l gs g:=⟨λ_=>Tot.li (λs=>s.2) (λs=>s.1.length≤s.2∧s.2≤l.length∧∀g∈s.1,(dsz (aw g.fV)≤10000000000000∧(g.dw=true∨g.fV.aA=2∨g.fV.aA=3))∧From l gs g) l.length (by omega) (by simp) λs h1 ⟨g1,g2,g3⟩=>by
  unfold rA
  refine Tot.cd (λh2=>Tot.b (Tot.gy ⟨h1,h2⟩ λp he hm=>?_)) λ_=>Tot.sb ⟨⟨by omega,λg h=>(g3 g h).1⟩,λg h=>(g3 g h).2⟩
  refine Tot.cl ⟨hn,hg⟩ λf hf=>Tot.b (Tot.m (R:=λ_=>True) tgo λ_ _=>Tot.c (λ_=>tgo) λ_=>?_)
  refine Tot.b (Tot.m (R:=λy=>dsz (aw y.fV)≤10000000000000∧From l gs y) (Tot.cn (Tot.c (λh=>Tot.s ⟨hv _ (hf.1 h),.inl (hf.1 h)⟩) λ_=>Tot.b (Tot.ge he (Tot.b (Tot.ge he (Tot.s ⟨(hp p hm).2.2.1,.inr ⟨p,hm,rfl⟩⟩)))))) λy hy=>?_)
  refine Tot.b (Tot.ge he (Tot.cl ⟨hn,hp p hm,hy.1⟩ λb hb=>Tot.cn (Tot.c (λh=>Tot.n (by omega) (Tot.i (by omega) (Tot.sn ⟨h2,by omega,by simp;omega,by dsimp only;omega,λg hg'=>?_⟩))) λ_=>tgo)))
  rcases List.mem_append.1 hg' with hg'|hg'
  · exact g3 g hg'
  · simp at hg';rw[hg'];exact⟨⟨hy.1,hb h⟩,hy.2⟩⟩
 have h0:BdOK []∧∀g∈ ([]:List aG),From l gs g:=⟨⟨by simp,by simp⟩,by simp⟩
 unfold iQ
 refine Tot.cl ⟨hn,hl,hp⟩ λe _=>Tot.cn (Tot.cd (λ_=>Tot.cl ⟨hn,hg⟩ λ_ _=>Tot.cn (Tot.c (λ_=>Tot.cl trivial λb _=>?_) λ_=>Tot.s h0)) λ_=>Tot.s h0)
 cases b with
 |inl _=>exact Tot.s h0
 |inr _=>
  refine Tot.cl trivial λb hb=>?_
  cases b with
  |inl _=>exact Tot.s h0
  |inr r=>exact Tot.s hb⟩
open Go.Ck
def pQ (n:Nat) (d0:bZ) (K1:Int×Int):Option (Lp (Int×Int) Int):=bif decide (K1.2<(d0.fL.length:Int)) then(aq d0.fL K1.2).bind λX1=>ar (inR .i64 ((X1.fL.length:Int)*10000))<|ar (inR .i64 ((1:Int)+ ((X1.fL.length:Int)*10000)))<|ar (inR .i64 (K1.1+ ((1:Int)+ ((X1.fL.length:Int)*10000))))<|ar (inR .i64 (K1.2+1))<|some (.nx (K1.1+ ((1:Int)+ ((X1.fL.length:Int)*10000)),K1.2+1)) else some (.br K1.1)
def mI (n:Nat) (d0:bZ):Option Int:=bif decide ((50:Int)<(d0.fL.length:Int)) then some (10000:Int) else ar (inR .i64 ((d0.be.length:Int)+ (d0.aE.length:Int)))<|ar (inR .i64 (((d0.be.length:Int)+ (d0.aE.length:Int))+ (d0.dQ.length:Int)))<|ar (inR .i64 ((1:Int)+ (min (((d0.be.length:Int)+ (d0.aE.length:Int))+ (d0.dQ.length:Int)) (10000:Int))))<|(av (pQ n d0) n ((1:Int)+ (min (((d0.be.length:Int)+ (d0.aE.length:Int))+ (d0.dQ.length:Int)) (10000:Int)),(0:Int))).bind λG1=>some (G1)
theorem xa (n:Nat) (d0:bZ) (z:Zs):oK (bg.facts d0 z) [] 204 [bg.ag d0 z] (mI n d0) (λr y=>⟨.int .i64 r,[],[]⟩):=
 fn 41 Tryz.func204 (br [bx 1,K 1 5] (rt []) (nd (λO1=>nd (λO2=>nd (λO3=>lp [K 1 1,K 1 3,wr 15 O1,K 1 4,wr 19 O2,mn,wr 21 O3] {} (λK1 _ _=>{L:=[(3,.int .i64 K1.1),(4,.int .i64 K1.2)],ks:=[1]}) (λG1 _ _=>{e:=.exit 0,L:=[(3,.int .i64 G1)]}) (λK1=>br [K 1 5] (ob (λ_ X2=>nd (λO4=>nd (λO5=>nd (λO6=>nd (λO7=>rt [K 1 5,I 0 2 bg X2,K 2 5,wr 37 O4,wr 38 O5,wr 39 O6,wr 28 O7])))))) (rt [])) (kA λ_=>rt []))))))
abbrev Ac (rec_ref15_weight:cy→Int→Option Int):Prop:=∀ (d0:cy) (d1:Int) (z:Zs),OkC Tryz.prog (bJ.facts d0 z) [] 151 [bJ.ag d0 z,.int .i64 d1] (rec_ref15_weight d0 d1) (λr y=>⟨.int .i64 r,[],[]⟩)
def nD (n:Nat) (rec_ref15_weight:cy→Int→Option Int) (d0:cy) (d1:Int) (K1:Int×Int):Option (Lp (Int×Int) Int):=(bif decide (K1.2<(d0.fL.length:Int)) then some (decide (K1.1≤10000)) else some (false):Option Bool).bind λG2=>bif G2 then(aq d0.fL K1.2).bind λX5=>ar (inR .i64 (d1-1))<|(rec_ref15_weight X5 (d1-1)).bind λX7=>ar (inR .i64 (K1.1+X7))<|ar (inR .i64 (K1.2+1))<|some (.nx (K1.1+X7,K1.2+1)) else some (.br K1.1)
def pV (n:Nat) (rec_ref15_weight:cy→Int→Option Int) (d0:cy) (d1:Int):Option Int:=(bif decide (d1=0) then some (true) else some (decide ((200:Int)<(d0.fL.length:Int))):Option Bool).bind λG1=>bif G1 then some (10000:Int) else ar (inR .i64 ((1:Int)+ (min (d0.aE.length:Int) (10000:Int))))<|(mI n d0.fA).bind λX1=>ar (inR .i64 (((1:Int)+ (min (d0.aE.length:Int) (10000:Int)))+X1))<|(mI n d0.fB).bind λX3=>ar (inR .i64 ((((1:Int)+ (min (d0.aE.length:Int) (10000:Int)))+X1)+X3))<|(av (nD n rec_ref15_weight d0 d1) n ((((1:Int)+ (min (d0.aE.length:Int) (10000:Int)))+X1)+X3,(0:Int))).bind λG3=>some (G3)
theorem zh (n:Nat) (rec_ref15_weight:cy→Int→Option Int) (hrec_ref15_weight:Ac rec_ref15_weight) (d0:cy) (d1:Int) (z:Zs):oK (bJ.facts d0 z) [] 151 [bJ.ag d0 z,.int .i64 d1] (pV n rec_ref15_weight d0 d1) (λr y=>⟨.int .i64 r,[],[]⟩):=
 fn 50 Tryz.func151 (jn (.reg 1) [bx 3] (λG1 _ _=>{L:=[(14,.bool G1)],ks:=[1,2]}) (bs [] 9 (rt []) (rt [K 3 14])) (kA λ_=>br [] (rt []) (nd (λO1=>ob (λ_ X2=>nd (λO2=>ob (λ_ X4=>nd (λO3=>lp [ch [] [(19,⟨congrArg (Value.int .i64) (cD O1)⟩),(23,⟨congrArg (Value.int .i64) (cD O2)⟩),(27,⟨congrArg (Value.int .i64) (cD O3)⟩)],K 3 0,mn,K 3 2,C (xa n d0.fA) X2 [0] [] 4,K 3 8,C (xa n d0.fB) X4 [1] [] 4] {} (λK1 _ _=>{L:=[(5,.int .i64 K1.1),(6,.int .i64 K1.2)],ks:=[1,2]}) (λG3 _ _=>{e:=.exit 0,L:=[(5,.int .i64 G3)]}) (λK1=>jn (.reg 5) [] (λG2 _ _=>{L:=[(36,.bool G2)],ks:=[1,2,5,6]}) (bs [K 3 14] 33 (rt []) (rt [])) (kA λ_=>br [] (ob (λX5 X6=>nd (λO4=>ob (λ_ X8=>nd (λO5=>nd (λO6=>rt [K 3 14,I 2 4 bJ X6,K 4 0,wr 46 O4,C (hrec_ref15_weight X5 (d1-1)) X8 [5,6,7] [] 8,wr 48 O5,wr 38 O6])))))) (rt []))) (kA λ_=>rt [])))))))))
def dP (n:Nat):Nat→cy→Int→Option Int|0=>λ_ _=>none|k+1=>pV n (dP n k)
def tN (n:Nat) (d0:cy) (d1:Int):Option Int:=dP n n d0 d1
theorem BU (n:Nat) (d0:cy) (d1:Int) (z:Zs):oK (bJ.facts d0 z) [] 151 [bJ.ag d0 z,.int .i64 d1] (tN n d0 d1) (λr y=>⟨.int .i64 r,[],[]⟩):=by
 have key: ∀ (k:Nat) (d0:cy) (d1:Int) (z:Zs),oK (bJ.facts d0 z) [] 151 [bJ.ag d0 z,.int .i64 d1] (dP n k d0 d1) (λr y=>⟨.int .i64 r,[],[]⟩):=by
  intro k
  induction k with
  |zero=>intros;exact OkC.none
  |succ k ih=>exact zh n (dP n k) ih
 exact key n d0 d1 z
def pN (n:Nat) (d0:Cw) (K1:Int×Int):Option (Lp (Int×Int) (Sum Unit Unit)):=bif decide (K1.2<(d0.length:Int)) then(aq d0 K1.2).bind λX1=>(tN n X1 (20:Int)).bind λX3=>ar (inR .i64 (K1.1+X3))<|bif decide ((5000:Int)<(K1.1+X3)) then some (.br (.inl ())) else ar (inR .i64 (K1.2+1))<|some (.nx (K1.1+X3,K1.2+1)) else some (.br (.inr ()))
def qH (n:Nat) (d0:Cw):Option Bool:=bif decide ((40:Int)<(d0.length:Int)) then some (true) else(av (pN n d0) n ((0:Int),(0:Int))).bind λQ1=>(match Q1 with|.inl G1=>some (true)|.inr G2=>some (false))
theorem ref15_Great_C (n:Nat) (d0:Cw) (z:Zs):oK ([sX 15 bb (z 0) d0]) [] 91 [wX (z 0) d0] (qH n d0) (λr y=>⟨.bool r,[],[]⟩):=
 fn 23 Tryz.func91 (br [] (rt []) (lp [] {} (λK1 _ _=>{L:=[(3,.int .i64 K1.1),(4,.int .i64 K1.2)],ks:=[0]}) (λx z b=>match x with|.inl G1=>{e:=.ret,L:=[(2,.bool true)]}|.inr G2=>{e:=.exit 0}) (λK1=>br [] (ob (λX1 X2=>ob (λ_ X4=>nd (λO1=>br [I 0 1 bJ X2,K 1 0,C (BU n X1 (20:Int)) X4 [2,3,4] [] 5,wr 20 O1] (rt []) (nd (λO2=>rt [wr 13 O2])))))) (rt [])) (kS (kA λ_=>rt []) (kA λ_=>rt []))))
def jX (n:Nat) (d0:bZ) (d1:Bool) (d2:Bool) (d3:Bool):Option Bool:=bif d1 then bif d2 then bif d3 then bif decide (d0.dQ=[]) then some (decide ((d0.fL.length:Int)=0)) else some (false) else bif decide (d0.aE=[]) then bif decide (d0.dQ=[]) then some (decide ((d0.fL.length:Int)=0)) else some (false) else some (false) else bif decide (d0.dV=0) then bif d3 then bif decide (d0.dQ=[]) then some (decide ((d0.fL.length:Int)=0)) else some (false) else bif decide (d0.aE=[]) then bif decide (d0.dQ=[]) then some (decide ((d0.fL.length:Int)=0)) else some (false) else some (false) else some (false) else bif decide (d0.be=[]) then bif d2 then bif d3 then bif decide (d0.dQ=[]) then some (decide ((d0.fL.length:Int)=0)) else some (false) else bif decide (d0.aE=[]) then bif decide (d0.dQ=[]) then some (decide ((d0.fL.length:Int)=0)) else some (false) else some (false) else bif decide (d0.dV=0) then bif d3 then bif decide (d0.dQ=[]) then some (decide ((d0.fL.length:Int)=0)) else some (false) else bif decide (d0.aE=[]) then bif decide (d0.dQ=[]) then some (decide ((d0.fL.length:Int)=0)) else some (false) else some (false) else some (false) else some (false)
theorem oy (n:Nat) (d0:bZ) (d1:Bool) (d2:Bool) (d3:Bool) (z:Zs):oK (bg.facts d0 z) [] 273 [bg.ag d0 z,.bool d1,.bool d2,.bool d3] (jX n d0 d1 d2 d3) (λr y=>⟨.bool r,[],[]⟩):=
 fn 42 Tryz.func273 (bs [bx 1] 10 (bs [] 17 (bs [] 25 (bs [K 1 4] 36 (rt [K 1 5]) (rt [])) (bs [K 1 3] 31 (bs [K 1 4] 36 (rt [K 1 5]) (rt [])) (rt []))) (bs [K 1 2] 23 (bs [] 25 (bs [K 1 4] 36 (rt [K 1 5]) (rt [])) (bs [K 1 3] 31 (bs [K 1 4] 36 (rt [K 1 5]) (rt [])) (rt []))) (rt []))) (bs [K 1 1] 15 (bs [] 17 (bs [] 25 (bs [K 1 4] 36 (rt [K 1 5]) (rt [])) (bs [K 1 3] 31 (bs [K 1 4] 36 (rt [K 1 5]) (rt [])) (rt []))) (bs [K 1 2] 23 (bs [] 25 (bs [K 1 4] 36 (rt [K 1 5]) (rt [])) (bs [K 1 3] 31 (bs [K 1 4] 36 (rt [K 1 5]) (rt [])) (rt []))) (rt []))) (rt [])))
def ew (n:Nat) (d0:bZ):Option Bool:=bif decide (d0.aA=0) then(jX n d0 (true) (false) (false)).bind λX1=>bif X1 then(gU n d0.be).bind λX3=>some (X3) else some (false) else bif decide (d0.aA=1) then(jX n d0 (false) (true) (false)).bind λX5=>bif X5 then bif decide ((-9007199254740992:Int)≤d0.dV) then some (decide (d0.dV≤9007199254740992)) else some (false) else some (false) else bif decide (d0.aA=3) then(jX n d0 (false) (false) (true)).bind λX7=>some (X7) else some (false)
theorem jY (n:Nat) (d0:bZ) (z:Zs):oK (bg.facts d0 z) [] 246 [bg.ag d0 z] (ew n d0) (λr y=>⟨.bool r,[],[]⟩):=
 fn 32 Tryz.func246 (br [bx 1,K 1 0] (ob (λ_ X2=>bs [K 1 0,C (oy n d0 (true) (false) (false)) X2 [0] [] 2] 9 (ob (λ_ X4=>rt [K 1 1,C (jD n d0.be) X4 [] [] 2])) (rt []))) (br [] (ob (λ_ X6=>bs [K 1 0,C (oy n d0 (false) (true) (false)) X6 [0] [] 2] 18 (bs [K 1 2] 23 (rt [K 1 2]) (rt [])) (rt []))) (br [] (ob (λ_ X8=>rt [K 1 0,C (oy n d0 (false) (false) (true)) X8 [0] [] 2])) (rt []))))
def rG (n:Nat) (d0:Cp) (d1:Bs) (K1:Int×aG):Option (Lp (Int×aG) (Sum aG aG)):=bif decide (K1.1<(d0.length:Int)) then(aq d0 K1.1).bind λX1=>bif decide (X1.aE=d1) then(aq d0 K1.1).bind λX3=>some (.br (.inl X3)) else ar (inR .i64 (K1.1+1))<|some (.nx (K1.1+1,K1.2)) else some (.br (.inr K1.2))
def tJ (n:Nat) (d0:Cp) (d1:Bs):Option (aG×Bool):=(av (rG n d0 d1) n ((0:Int),(⟨([]:Bs),(false),cU⟩:aG))).bind λQ2=>(match Q2 with|.inl G1=>some (G1,(true))|.inr G2=>some ((⟨([]:Bs),(false),cU⟩:aG),(false)))
theorem ref15_find_C (n:Nat) (d0:Cp) (d1:Bs) (z:Zs):oK ([sX 8 aj (z 0) d0]) [] 249 [wX (z 0) d0,S d1] (tJ n d0 d1) (λr y=>⟨.tuple #[bc.ag r.1 y,.bool r.2],[],bc.facts r.1 y⟩):=
 fn 25 Tryz.func249 (lp [al 1,nf 2 6 aw,nf 3 1 Dat.str] {is:=[2,3]} (λK1 z _=>{L:=[(6,.int .i64 K1.1)],ks:=[0,1,4],o:=[(1,.cells (bc.cells K1.2 z).toArray 186 (0,0))],F:=nums 4 (bc.facts K1.2 z)}) (λx z b=>match x with|.inl G1=>{e:=.ret,L:=[(5,.bool true)],ks:=[4],o:=[(1,.cells (bc.cells G1 z).toArray 186 (0,0))],F:=nums 12 (bc.facts G1 z)}|.inr G2=>{e:=.exit 0,ks:=[4],o:=[(1,.cells (bc.cells G2 z).toArray 186 (0,0))],F:=nums 12 (bc.facts G2 z)}) (λK1=>br [] (ob (λ_ X2=>br [I 0 6 bc X2,K 6 0] (ob (λ_ X4=>rt [I 0 9 bc X4,K 9 0,Sn 1] {is:=[10,11]})) (nd (λO1=>rt [wr 12 O1] {is:=[4,5]})))) (rt [] {is:=[4,5]})) (kS (kA λ_=>rt [] {is:=[12,13],rk:=[1,0]}) (kA λ_=>rt [Sn 1,nf 14 6 aw,nf 15 1 Dat.str] {is:=[14,15],rk:=[1,0]})))
def iU (n:Nat) (d0:bZ) (d1:Cp):Option (aG×Int):=(ew n d0).bind λX1=>bif !X1 then some ((⟨([]:Bs),(false),cU⟩:aG),(150:Int)) else bif decide (d0.aA=0) then(xG n d0.be).bind λX3=>some ((⟨([]:Bs),(false),X3⟩:aG),(0:Int)) else bif decide (d0.aA=1) then(yZ n d0.dV).bind λX5=>some ((⟨([]:Bs),(false),X5⟩:aG),(0:Int)) else(tJ n d1 d0.aE).bind λX7=>bif !X7.2 then some ((⟨([]:Bs),(false),cU⟩:aG),(150:Int)) else some ((⟨([]:Bs),(X7.1.dw),X7.1.fV⟩:aG),(0:Int))
theorem rE (n:Nat) (d0:bZ) (d1:Cp) (z:Zs):oK (bg.facts d0 z++[sX 8 aj (z 1) d1]) [] 212 [bg.ag d0 z,wX (z 1) d1] (iU n d0 d1) (λr y=>⟨.tuple #[bc.ag r.1 y,.int .i64 r.2],[],bc.facts r.1 y⟩):=
 fn 41 Tryz.func212 (ob (λ_ X2=>br [bx 2,al 3,K 2 0,C (jY n d0) X2 [0] [] 4] (rt [Sn 3,nf 4 6 aw,nf 5 1 Dat.str] {is:=[4,5],rk:=[3,0]}) (br [K 2 0] (ob (λ_ X4=>rt [K 2 1,C (ref03_Text_C n d0.be) X4 [] [] 4,Sn 3] {is:=[4,5],rk:=[3,0]})) (br [] (ob (λ_ X6=>rt [K 2 2,C (ref03_Num_C n d0.dV) X6 [] [] 4,Sn 3] {is:=[4,5],rk:=[3,0]})) (ob (λ_ X8=>br [K 2 3,C (ref15_find_C n d1 d0.aE) X8 [1] [] 4,al 6,Sn 6] (rt [Sn 3,nf 7 6 aw,nf 8 1 Dat.str] {is:=[7,8],rk:=[3,0]}) (rt [O 6,O 6,Sn 3] {is:=[4,5],rk:=[3,0]})))))))
def vB (n:Nat) (d0:Cw) (d1:Bs) (K1:Int):Option (Lp Int (Sum Int Unit)):=bif decide (K1<(d0.length:Int)) then(aq d0 K1).bind λX1=>bif decide (X1.aE=d1) then some (.br (.inl K1)) else ar (inR .i64 (K1+1))<|some (.nx (K1+1)) else some (.br (.inr ()))
def cp (n:Nat) (d0:Cw) (d1:Bs):Option Int:=(av (vB n d0 d1) n (0:Int)).bind λQ1=>(match Q1 with|.inl G1=>some (G1)|.inr G2=>some (-1:Int))
theorem pO (n:Nat) (d0:Cw) (d1:Bs) (z:Zs):oK ([sX 15 bb (z 0) d0]) [] 250 [wX (z 0) d0,S d1] (cp n d0 d1) (λr y=>⟨.int .i64 r,[],[]⟩):=
 fn 20 Tryz.func250 (lp [] {} (λK1 _ _=>{L:=[(5,.int .i64 K1)],ks:=[0,1]}) (λx z b=>match x with|.inl G1=>{e:=.ret,L:=[(4,.int .i64 G1)]}|.inr G2=>{e:=.exit 0}) (λK1=>br [] (ob (λ_ X2=>br [I 0 1 bJ X2,K 1 0] (rt []) (nd (λO1=>rt [wr 11 O1])))) (rt [])) (kS (kA λ_=>rt []) (kA λ_=>rt [])))
def pW (n:Nat) (d0:bZ):Option Bool:=bif decide (d0.aA=0) then(jX n d0 (false) (false) (false)).bind λX1=>some (X1) else some (false)
theorem ym (n:Nat) (d0:bZ) (z:Zs):oK (bg.facts d0 z) [] 274 [bg.ag d0 z] (pW n d0) (λr y=>⟨.bool r,[],[]⟩):=
 fn 10 Tryz.func274 (bs [bx 1,K 1 0] 6 (ob (λ_ X2=>rt [K 1 0,C (oy n d0 (false) (false) (false)) X2 [0] [] 2])) (rt []))
abbrev AW (rec_ref15_shape:cy→Int→Option Bool):Prop:=∀ (d0:cy) (d1:Int) (z:Zs),OkC Tryz.prog (bJ.facts d0 z) [] 251 [bJ.ag d0 z,.int .i64 d1] (rec_ref15_shape d0 d1) (λr y=>⟨.bool r,[],[]⟩)
def pU (n:Nat) (rec_ref15_shape:cy→Int→Option Bool) (d0:cy) (d1:Int) (K1:Int):Option (Lp Int (Sum Unit Unit)):=bif decide (K1<(d0.fL.length:Int)) then(aq d0.fL K1).bind λX9=>bif !(decide (X9.aA=4)) then(aq d0.fL K1).bind λX11=>bif !(decide (X11.aE=[])) then some (.br (.inl ())) else(aq d0.fL K1).bind λX13=>ar (inR .i64 (d1-1))<|(rec_ref15_shape X13 (d1-1)).bind λX15=>bif !X15 then some (.br (.inl ())) else ar (inR .i64 (K1+1))<|some (.nx (K1+1)) else(aq d0.fL K1).bind λX17=>ar (inR .i64 (d1-1))<|(rec_ref15_shape X17 (d1-1)).bind λX19=>bif !X19 then some (.br (.inl ())) else ar (inR .i64 (K1+1))<|some (.nx (K1+1)) else some (.br (.inr ()))
def rI (n:Nat) (rec_ref15_shape:cy→Int→Option Bool) (d0:cy) (d1:Int):Option Bool:=bif decide (d1=0) then some (false) else(bif !(decide (d0.aA=0)) then(pW n d0.fA).bind λX1=>bif !X1 then some (true) else(pW n d0.fB).bind λX3=>some (!X3) else some (false):Option Bool).bind λG1=>bif G1 then some (false) else(bif decide (d0.aA=0) then bif decide ((d0.fL.length:Int)=0) then(ew n d0.fA).bind λX5=>bif X5 then(ew n d0.fB).bind λX7=>(some (X7):Option Bool).map Lp.br else(some (false):Option Bool).map Lp.br else(some (false):Option Bool).map Lp.br else(bif decide (d0.aA=1) then some (decide (d0.aA=1)) else some (decide (d0.aA=2)):Option Bool).bind λG2=>bif G2 then bif decide ((d0.fL.length:Int)<1) then(some (false):Option Bool).map Lp.br else bif decide ((4:Int)<(d0.fL.length:Int)) then(some (false):Option Bool).map Lp.br else some (.nx ()) else bif decide (d0.aA=3) then bif !(decide ((d0.fL.length:Int)=1)) then(some (false):Option Bool).map Lp.br else some (.nx ()) else bif decide (d0.aA=4) then bif decide ((d0.fL.length:Int)=0) then(some (!(decide (d0.aE=[]))):Option Bool).map Lp.br else(some (false):Option Bool).map Lp.br else(some (false):Option Bool).map Lp.br:Option (Lp Unit Bool)).bind λj=>joinF j λG3=>(av (pU n rec_ref15_shape d0 d1) n (0:Int)).bind λQ2=>(match Q2 with|.inl G4=>some (false)|.inr G5=>some (true))
theorem Au (n:Nat) (rec_ref15_shape:cy→Int→Option Bool) (hrec_ref15_shape:AW rec_ref15_shape) (d0:cy) (d1:Int) (z:Zs):oK (bJ.facts d0 z) [] 251 [bJ.ag d0 z,.int .i64 d1] (rI n rec_ref15_shape d0 d1) (λr y=>⟨.bool r,[],[]⟩):=
 fn 105 Tryz.func251 (br [bx 3] (rt []) (jn (.reg 3) [] (λG1 _ _=>{L:=[(22,.bool G1)],ks:=[1,2]}) (bs [K 3 1] 11 (ob (λ_ X2=>bs [K 3 2,C (ym n d0.fA) X2 [0] [] 4] 16 (rt []) (ob (λ_ X4=>rt [K 3 8,C (ym n d0.fB) X4 [1] [] 4])))) (rt [])) (kA λ_=>br [] (rt []) (jb (.blk 0) [K 3 1] (λ_ _ _=>{ks:=[1,2]}) (br [] (bs [K 3 14] 31 (ob (λ_ X6=>bs [K 3 2,C (jY n d0.fA) X6 [0] [] 4] 36 (ob (λ_ X8=>esc [K 3 8,C (jY n d0.fB) X8 [1] [] 4] (rt []))) (esc [] (rt [])))) (esc [] (rt []))) (jn .no [] (λG2 _ _=>{L:=[(41,.bool G2)],ks:=[1,2,24]}) (br [] (rt []) (rt [])) (kA λ_=>br [] (bs [K 3 14] 48 (esc [cd true] (rt [])) (br [K 3 14] (esc [] (rt [])) (rt []))) (br [] (br [K 3 14] (esc [] (rt [])) (rt [])) (br [] (bs [K 3 14] 66 (esc [K 3 0] (rt [])) (esc [] (rt []))) (esc [] (rt []))))))) (kA λ_=>lp [] {} (λK1 _ _=>{L:=[(5,.int .i64 K1)],ks:=[1,2]}) (λx z b=>match x with|.inl G4=>{e:=.ret,L:=[(4,.bool false)]}|.inr G5=>{e:=.exit 1}) (λK1=>br [K 3 14] (ob (λ_ X10=>bs [K 3 14,I 2 4 bJ X10,K 4 1] 85 (ob (λ_ X12=>bs [K 3 14,I 2 8 bJ X12,K 8 0] 94 (rt [cd true]) (ob (λX13 X14=>nd (λO1=>ob (λ_ X16=>br [K 3 14,I 2 12 bJ X14,K 12 0,wr 101 O1,C (hrec_ref15_shape X13 (d1-1)) X16 [13,14,15] [] 16] (rt []) (nd (λO2=>rt [wr 77 O2])))))))) (ob (λX17 X18=>nd (λO3=>ob (λ_ X20=>br [K 3 14,I 2 8 bJ X18,K 8 0,wr 101 O3,C (hrec_ref15_shape X17 (d1-1)) X20 [9,10,11] [] 12] (rt []) (nd (λO4=>rt [wr 77 O4])))))))) (rt [])) (kS (kA λ_=>rt []) (kA λ_=>rt [])))))))
def eo (n:Nat):Nat→cy→Int→Option Bool|0=>λ_ _=>none|k+1=>rI n (eo n k)
def zN (n:Nat) (d0:cy) (d1:Int):Option Bool:=eo n n d0 d1
theorem ref15_shape_C (n:Nat) (d0:cy) (d1:Int) (z:Zs):oK (bJ.facts d0 z) [] 251 [bJ.ag d0 z,.int .i64 d1] (zN n d0 d1) (λr y=>⟨.bool r,[],[]⟩):=by
 have key: ∀ (k:Nat) (d0:cy) (d1:Int) (z:Zs),oK (bJ.facts d0 z) [] 251 [bJ.ag d0 z,.int .i64 d1] (eo n k d0 d1) (λr y=>⟨.bool r,[],[]⟩):=by
  intro k
  induction k with
  |zero=>intros;exact OkC.none
  |succ k ih=>exact Au n (eo n k) ih
 exact key n d0 d1 z
abbrev Aa (rec_ref15_params:cy→Option (List Bs)):Prop:=∀ (d0:cy) (z:Zs),OkC Tryz.prog (bJ.facts d0 z) [] 252 [bJ.ag d0 z] (rec_ref15_params d0) (λr y=>⟨(y 0).sl r.length,[],[.sli 1 Dat.str (y 0).A (y 0).c r]⟩)
def uA (n:Nat) (rec_ref15_params:cy→Option (List Bs)) (d0:cy) (K1:List Bs×Int):Option (Lp (List Bs×Int) (List Bs)):=bif decide (K1.2<(d0.fL.length:Int)) then(aq d0.fL K1.2).bind λX1=>(rec_ref15_params X1).bind λX3=>ar ((K1.1.length+X3.length)*16≤140737488355328)<|ar (inR .i64 (K1.2+1))<|some (.nx (K1.1++X3,K1.2+1)) else some (.br K1.1)
def pS (n:Nat) (rec_ref15_params:cy→Option (List Bs)) (d0:cy):Option (List Bs):=(bif decide (d0.aA=0) then(bif decide (d0.fA.aA=3) then ar ((([]:List Bs).length+1)*16≤140737488355328)<|some (([]:List Bs)++[d0.fA.aE]) else some ([]:List Bs):Option (List Bs)).bind λG1=>bif decide (d0.fB.aA=3) then ar ((G1.length+1)*16≤140737488355328)<|some (G1++[d0.fB.aE]) else some (G1) else some ([]:List Bs):Option (List Bs)).bind λG2=>(av (uA n rec_ref15_params d0) n (G2,(0:Int))).bind λG3=>some (G3)
theorem zf (n:Nat) (rec_ref15_params:cy→Option (List Bs)) (hrec_ref15_params:Aa rec_ref15_params) (d0:cy) (z:Zs):oK (bJ.facts d0 z) [] 252 [bJ.ag d0 z] (pS n rec_ref15_params d0) (λr y=>⟨(y 0).sl r.length,[],[sX 1 Dat.str (y 0) r]⟩):=
 fn 44 Tryz.func252 (jn .no [bx 3,K 3 1] (λG2 z _=>{L:=[(3,(z 1).sl G2.length)],ks:=[1],E:=[(15,rX 9 1 (z 1) G2)],F:=[(14,qX 1 Dat.str (z 1) G2)]}) (br [] (jn .no [K 3 2] (λG1 z _=>{L:=[(3,(z 1).sl G1.length)],ks:=[1],E:=[(10,rX 9 1 (z 1) G1)],F:=[(9,qX 1 Dat.str (z 1) G1)]}) (br [] (nd (λO1=>rt [K 3 5,ao 4,nr 5 6 9 tS,lk 4 7 tS [(d0.fA.aE,[])],ap (ys:=[d0.fA.aE]) 5 6 7 8 tS O1] {is:=[8],js:=[5]})) (rt [nr 4 5 9 tS] {is:=[5],js:=[4]})) (kA λ_=>br [K 3 8] (nd (λO2=>rt [K 3 11,ao 11,lk 11 12 tS [(d0.fB.aE,[])],ap (ys:=[d0.fB.aE]) 10 9 12 13 tS O2] {is:=[13],js:=[10]})) (rt [] {is:=[9],js:=[10]}))) (rt [nr 4 5 9 tS] {is:=[5],js:=[4]})) (kA λ_=>lp [] {is:=[14],js:=[15]} (λK1 z _=>{L:=[(3,(z 1).sl K1.1.length),(4,.int .i64 K1.2)],ks:=[1],E:=[(17,rX 9 1 (z 1) K1.1)],x:=[15],F:=[(16,qX 1 Dat.str (z 1) K1.1)]}) (λG3 z _=>{e:=.exit 0,L:=[(3,(z 1).sl G3.length)],E:=[(25,rX 9 1 (z 1) G3)],x:=[15],F:=[(24,qX 1 Dat.str (z 1) G3)]}) (λK1=>br [K 3 14] (ob (λX1 X2=>ob (λ_ X4=>nd (λO3=>nd (λO4=>rt [K 3 14,I 2 18 bJ X2,K 18 0,C (hrec_ref15_params X1) X4 [19,20,21] [] 22,ap 17 16 22 23 tS O3,wr 34 O4] {is:=[23],js:=[17]}))))) (rt [] {is:=[16],js:=[17]})) (kA λ_=>rt [ri 25 24 26] {is:=[26]})))
def eH (n:Nat):Nat→cy→Option (List Bs)|0=>λ_=>none|k+1=>pS n (eH n k)
def tM (n:Nat) (d0:cy):Option (List Bs):=eH n n d0
theorem BR (n:Nat) (d0:cy) (z:Zs):oK (bJ.facts d0 z) [] 252 [bJ.ag d0 z] (tM n d0) (λr y=>⟨(y 0).sl r.length,[],[sX 1 Dat.str (y 0) r]⟩):=by
 have key: ∀ (k:Nat) (d0:cy) (z:Zs),oK (bJ.facts d0 z) [] 252 [bJ.ag d0 z] (eH n k d0) (λr y=>⟨(y 0).sl r.length,[],[sX 1 Dat.str (y 0) r]⟩):=by
  intro k
  induction k with
  |zero=>intros;exact OkC.none
  |succ k ih=>exact zf n (eH n k) ih
 exact key n d0 z
def tK (n:Nat) (d0:List Bs) (d1:Bs) (K1:Int):Option (Lp Int (Sum Unit Unit)):=bif decide (K1<(d0.length:Int)) then(aq d0 K1).bind λX1=>bif decide (X1=d1) then some (.br (.inl ())) else ar (inR .i64 (K1+1))<|some (.nx (K1+1)) else some (.br (.inr ()))
def sD (n:Nat) (d0:List Bs) (d1:Bs):Option Bool:=(av (tK n d0 d1) n (0:Int)).bind λQ1=>(match Q1 with|.inl G1=>some (true)|.inr G2=>some (false))
theorem zL (n:Nat) (d0:List Bs) (d1:Bs) (z:Zs):oK ([sX 1 Dat.str (z 0) d0]) [] 253 [wX (z 0) d0,S d1] (sD n d0 d1) (λr y=>⟨.bool r,[],[]⟩):=
 fn 18 Tryz.func253 (lp [] {} (λK1 _ _=>{L:=[(5,.int .i64 K1)],ks:=[0,1]}) (λx z b=>match x with|.inl G1=>{e:=.ret,L:=[(4,.bool true)]}|.inr G2=>{e:=.exit 0}) (λK1=>br [] (ob (λ_ X2=>br [I 0 1 tS X2,K 1 0] (rt []) (nd (λO1=>rt [wr 11 O1])))) (rt [])) (kS (kA λ_=>rt []) (kA λ_=>rt [])))
abbrev AV (rec_ref15_inner:cy→Option (List Bs)):Prop:=∀ (d0:cy) (z:Zs),OkC Tryz.prog (bJ.facts d0 z) [] 275 [bJ.ag d0 z] (rec_ref15_inner d0) (λr y=>⟨(y 0).sl r.length,[],[.sli 1 Dat.str (y 0).A (y 0).c r]⟩)
def vC (n:Nat) (rec_ref15_inner:cy→Option (List Bs)) (d0:cy) (K1:List Bs×Int):Option (Lp (List Bs×Int) (List Bs)):=bif decide (K1.2<(d0.fL.length:Int)) then(aq d0.fL K1.2).bind λX1=>(rec_ref15_inner X1).bind λX3=>ar ((K1.1.length+X3.length)*16≤140737488355328)<|ar (inR .i64 (K1.2+1))<|some (.nx (K1.1++X3,K1.2+1)) else some (.br K1.1)
def rH (n:Nat) (rec_ref15_inner:cy→Option (List Bs)) (d0:cy):Option (List Bs):=bif decide (d0.aA=4) then some ([d0.aE]:List Bs) else(av (vC n rec_ref15_inner d0) n (([]:List Bs),(0:Int))).bind λG1=>some (G1)
theorem As (n:Nat) (rec_ref15_inner:cy→Option (List Bs)) (hrec_ref15_inner:AV rec_ref15_inner) (d0:cy) (z:Zs):oK (bJ.facts d0 z) [] 275 [bJ.ag d0 z] (rH n rec_ref15_inner d0) (λr y=>⟨(y 0).sl r.length,[],[sX 1 Dat.str (y 0) r]⟩):=
 fn 27 Tryz.func275 (br [bx 3,K 3 1] (rt [K 3 0,ao 4,lk 4 5 tS [(d0.aE,[])]] {is:=[5]}) (lp [nr 4 5 9 tS] {is:=[5],js:=[4]} (λK1 z _=>{L:=[(3,(z 1).sl K1.1.length),(4,.int .i64 K1.2)],ks:=[1],E:=[(7,rX 9 1 (z 1) K1.1)],x:=[4],F:=[(6,qX 1 Dat.str (z 1) K1.1)]}) (λG1 z _=>{e:=.exit 0,L:=[(3,(z 1).sl G1.length)],E:=[(15,rX 9 1 (z 1) G1)],x:=[4],F:=[(14,qX 1 Dat.str (z 1) G1)]}) (λK1=>br [K 3 14] (ob (λX1 X2=>ob (λ_ X4=>nd (λO1=>nd (λO2=>rt [K 3 14,I 2 8 bJ X2,K 8 0,C (hrec_ref15_inner X1) X4 [9,10,11] [] 12,ap 7 6 12 13 tS O1,wr 17 O2] {is:=[13],js:=[7]}))))) (rt [] {is:=[6],js:=[7]})) (kA λ_=>rt [ri 15 14 16] {is:=[16]})))
def gC (n:Nat):Nat→cy→Option (List Bs)|0=>λ_=>none|k+1=>rH n (gC n k)
def zM (n:Nat) (d0:cy):Option (List Bs):=gC n n d0
theorem ref15_inner_C (n:Nat) (d0:cy) (z:Zs):oK (bJ.facts d0 z) [] 275 [bJ.ag d0 z] (zM n d0) (λr y=>⟨(y 0).sl r.length,[],[sX 1 Dat.str (y 0) r]⟩):=by
 have key: ∀ (k:Nat) (d0:cy) (z:Zs),oK (bJ.facts d0 z) [] 275 [bJ.ag d0 z] (gC n k d0) (λr y=>⟨(y 0).sl r.length,[],[sX 1 Dat.str (y 0) r]⟩):=by
  intro k
  induction k with
  |zero=>intros;exact OkC.none
  |succ k ih=>exact As n (gC n k) ih
 exact key n d0 z
def vA (n:Nat) (X1:List Bs) (K1:List Bs×Int):Option (Lp (List Bs×Int) (List Bs)):=bif decide (K1.2<(X1.length:Int)) then(aq X1 K1.2).bind λX3=>(sD n K1.1 X3).bind λX5=>bif !X5 then(aq X1 K1.2).bind λX7=>ar ((K1.1.length+1)*16≤140737488355328)<|ar (inR .i64 (K1.2+1))<|some (.nx (K1.1++[X7],K1.2+1)) else ar (inR .i64 (K1.2+1))<|some (.nx (K1.1,K1.2+1)) else some (.br K1.1)
def mH (n:Nat) (d0:cy):Option (List Bs):=(zM n d0).bind λX1=>(av (vA n X1) n (([]:List Bs),(0:Int))).bind λG1=>some (G1)
theorem wZ (n:Nat) (d0:cy) (z:Zs):oK (bJ.facts d0 z) [] 254 [bJ.ag d0 z] (mH n d0) (λr y=>⟨(y 1).sl r.length,[rX 9 1 (y 1) r],[qX 1 Dat.str (y 1) r]⟩):=
 fn 29 Tryz.func254 (ob (λ_ X2=>lp [bx 3,K 3 0,C (ref15_inner_C n d0) X2 [0,1,2] [] 4,nr 5 6 9 tS] {is:=[6],js:=[5]} (λK1 z _=>{L:=[(3,(z 1).sl K1.1.length),(5,.int .i64 K1.2)],ks:=[4],E:=[(8,rX 9 1 (z 1) K1.1)],x:=[5],F:=[(7,qX 1 Dat.str (z 1) K1.1)]}) (λG1 z _=>{e:=.exit 0,L:=[(3,(z 1).sl G1.length)],E:=[(16,rX 9 1 (z 1) G1)],x:=[5],F:=[(15,qX 1 Dat.str (z 1) G1)]}) (λK1=>br [] (ob (λX3 X4=>ob (λ_ X6=>br [I 4 9 tS X4,K 9 0,CL (zL n K1.1 X3) X6 [10] [(8,7,10)]] (ob (λX7 X8=>nd (λO1=>nd (λO2=>rt [I 4 11 tS X8,K 11 0,ao 12,lk 12 13 tS [(X7,[])],ap (ys:=[X7]) 8 7 13 14 tS O1,wr 13 O2] {is:=[14],js:=[8]})))) (nd (λO3=>rt [wr 13 O3] {is:=[7],js:=[8]}))))) (rt [] {is:=[7],js:=[8]})) (kA λ_=>rt [] {is:=[15],js:=[16]})))
def xb (n:Nat) (d0:Cw) (X3:List Bs) (K1:CD×Int):Option (Lp (CD×Int) CD):=bif decide (K1.2<(X3.length:Int)) then(aq X3 K1.2).bind λX5=>(cp n d0 X5).bind λX7=>bif decide ((0:Int)≤X7) then ar ((K1.1.length+1)*8≤140737488355328)<|ar (inR .i64 (K1.2+1))<|some (.nx (K1.1++[X7],K1.2+1)) else ar (inR .i64 (K1.2+1))<|some (.nx (K1.1,K1.2+1)) else some (.br K1.1)
def dW (n:Nat) (d0:Cw) (d1:Int):Option CD:=(aq d0 d1).bind λX1=>bif decide (X1.aA=4) then some ([]:CD) else(mH n X1).bind λX3=>(av (xb n d0 X3) n (([]:CD),(0:Int))).bind λG1=>some (G1)
theorem yj (n:Nat) (d0:Cw) (d1:Int) (z:Zs):oK ([sX 15 bb (z 0) d0]) [] 277 [wX (z 0) d0,.int .i64 d1] (dW n d0 d1) (λr y=>⟨(y 1).sl r.length,[rX 3 1 (y 1) r],[qX 1 (Dat.int .i64) (y 1) r]⟩):=
 fn 38 Tryz.func277 (ob (λX1 X2=>br [I 0 1 bJ X2,K 1 0,al 5,Sn 5,O 5] (rt [nr 6 7 3 (tI .i64)] {is:=[7],js:=[6]}) (ob (λ_ X4=>lp [O 5,C (wZ n X1) X4 [2,3,4] [] 6,nr 7 8 3 (tI .i64)] {is:=[8],js:=[7]} (λK1 z _=>{L:=[(5,(z 1).sl K1.1.length),(8,.int .i64 K1.2)],ks:=[0,7],E:=[(10,rX 3 1 (z 1) K1.1)],x:=[7],F:=[(9,qX 1 (Dat.int .i64) (z 1) K1.1)]}) (λG1 z _=>{e:=.exit 0,L:=[(5,(z 1).sl G1.length)],E:=[(17,rX 3 1 (z 1) G1)],x:=[7],F:=[(16,qX 1 (Dat.int .i64) (z 1) G1)]}) (λK1=>br [] (ob (λX5 X6=>ob (λX7 X8=>br [Re 6 6 11 tS X6,X 12,Rd 6 11 0,C (pO n d0 X5) X8 [0] [] 13] (nd (λO1=>nd (λO2=>rt [ao 13,lk 13 14 (tI .i64) [(X7,[])],ap (ys:=[X7]) 10 9 14 15 (tI .i64) O1,wr 24 O2] {is:=[15],js:=[10]}))) (nd (λO3=>rt [wr 24 O3] {is:=[9],js:=[10]}))))) (rt [] {is:=[9],js:=[10]})) (kA λ_=>rt [] {is:=[16],js:=[17]})))))
def vF (n:Nat) (d1:Int) (K1:CD×Int) (K2:CD×Int) (X3:CD) (K3:CD×Int):Option (Lp (CD×Int) CD):=bif decide (K3.2<(X3.length:Int)) then((aq X3 K3.2).bind λX5=>bif decide (X5=d1) then bif decide (K1.2=1) then some (true) else bif decide ((1:Int)<K1.2) then(aq X3 K3.2).bind λX7=>(aq K3.1 X7).bind λX9=>ar (inR .i64 (K1.2-1))<|some (decide (X9=(K1.2-1))) else some (false) else bif decide ((1:Int)<K1.2) then(aq X3 K3.2).bind λX11=>(aq K3.1 X11).bind λX13=>ar (inR .i64 (K1.2-1))<|some (decide (X13=(K1.2-1))) else some (false):Option Bool).bind λG1=>bif G1 then(aq K3.1 K2.2).bind λX15=>ar (inR .i64 (K3.2+1))<|some (.nx (K3.1.set K2.2.toNat K1.2,K3.2+1)) else ar (inR .i64 (K3.2+1))<|some (.nx (K3.1,K3.2+1)) else some (.br K3.1)
def vE (n:Nat) (d0:Cw) (d1:Int) (K1:CD×Int) (K2:CD×Int):Option (Lp (CD×Int) CD):=bif decide (K2.2<(d0.length:Int)) then(aq K2.1 K2.2).bind λX1=>bif decide ((0:Int)<X1) then ar (inR .i64 (K2.2+1))<|some (.nx (K2.1,K2.2+1)) else(dW n d0 K2.2).bind λX3=>(av (vF n d1 K1 K2 X3) n (K2.1,(0:Int))).bind λG2=>ar (inR .i64 (K2.2+1))<|some (.nx (G2,K2.2+1)) else some (.br K2.1)
def vD (n:Nat) (d0:Cw) (d1:Int) (K1:CD×Int):Option (Lp (CD×Int) CD):=bif decide (K1.2≤(d0.length:Int)) then(av (vE n d0 d1 K1) n (K1.1,(0:Int))).bind λG3=>ar (inR .i64 (K1.2+1))<|some (.nx (G3,K1.2+1)) else some (.br K1.1)
def qI (n:Nat) (d0:Cw) (d1:Int):Option CD:=ar (0≤(d0.length:Int)∧(d0.length:Int)*8≤140737488355328∧(d0.length:Int)≤140737488355328)<|(av (vD n d0 d1) n (List.replicate (d0.length:Int).toNat (0:Int),(1:Int))).bind λG4=>some (G4)
set_option maxRecDepth 20000 in
theorem ref15_steps_C (n:Nat) (d0:Cw) (d1:Int) (z:Zs):oK ([sX 15 bb (z 0) d0]) [] 276 [wX (z 0) d0,.int .i64 d1] (qI n d0 d1) (λr y=>⟨(y 1).sl r.length,[rX 3 1 (y 1) r],[qX 1 (Dat.int .i64) (y 1) r]⟩):=
 fn 70 Tryz.func276 (nd (λO1=>lp [ms 1 2 (tI .i64) (0:Int) O1] {is:=[2],js:=[1]} (λK1 z _=>{L:=[(5,(z 1).sl K1.1.length),(6,.int .i64 K1.2)],ks:=[0,1],E:=[(4,rX 3 1 (z 1) K1.1)],x:=[1],F:=[(3,qX 1 (Dat.int .i64) (z 1) K1.1)]}) (λG4 z _=>{e:=.exit 0,L:=[(5,(z 1).sl G4.length)],E:=[(26,rX 3 1 (z 1) G4)],x:=[1],F:=[(25,qX 1 (Dat.int .i64) (z 1) G4)]}) (λK1=>br [] (lp [] {is:=[3],js:=[4]} (λK2 z _=>{L:=[(5,(z 1).sl K2.1.length),(7,.int .i64 K2.2)],ks:=[0,1,6],E:=[(6,rX 3 1 (z 1) K2.1)],x:=[4],F:=[(5,qX 1 (Dat.int .i64) (z 1) K2.1)]}) (λG3 z _=>{e:=.exit 2,L:=[(5,(z 1).sl G3.length)],ks:=[0,1,6],E:=[(24,rX 3 1 (z 1) G3)],x:=[4],F:=[(23,qX 1 (Dat.int .i64) (z 1) G3)]}) (λK2=>br [] (ob (λ_ X2=>br [Re 6 5 7 (tI .i64) X2,X 8,Rd 6 7 0] (nd (λO2=>rt [wr 24 O2] {is:=[5],js:=[6]})) (ob (λ_ X4=>lp [C (yj n d0 K2.2) X4 [0] [] 9] {is:=[5],js:=[6]} (λK3 z _=>{L:=[(5,(z 1).sl K3.1.length),(9,.int .i64 K3.2)],ks:=[0,1,6,7,8],E:=[(11,rX 3 1 (z 1) K3.1)],x:=[6],F:=[(10,qX 1 (Dat.int .i64) (z 1) K3.1)]}) (λG2 z _=>{e:=.exit 4,L:=[(5,(z 1).sl G2.length)],ks:=[0,1,6,7],E:=[(22,rX 3 1 (z 1) G2)],x:=[6],F:=[(21,qX 1 (Dat.int .i64) (z 1) G2)]}) (λK3=>br [] (jn (.reg 13) [] (λG1 _ _=>{L:=[(64,.bool G1)],ks:=[0,1,5,6,7,8,9]}) (ob (λ_ X6=>bs [Re 9 9 12 (tI .i64) X6,X 13,Rd 9 12 0] 45 (bs [] 49 (rt []) (bs [] 52 (ob (λ_ X8=>ob (λ_ X10=>nd (λO3=>rt [Re 9 9 14 (tI .i64) X8,X 15,Rd 9 14 0,Re 11 10 16 (tI .i64) X10,X 17,Rd 11 16 0,wr 61 O3])))) (rt []))) (bs [] 52 (ob (λ_ X12=>ob (λ_ X14=>nd (λO4=>rt [Re 9 9 14 (tI .i64) X12,X 15,Rd 9 14 0,Re 11 10 16 (tI .i64) X14,X 17,Rd 11 16 0,wr 61 O4])))) (rt [])))) (kA λ_=>br [] (ob (λ_ X16=>nd (λO5=>rt [Re 11 10 18 (tI .i64) X16,X 19,Sr1 11 10 19 20 (tI .i64) X16 K1.2 [] [5,65],wr 38 O5] {is:=[20],js:=[11]}))) (nd (λO6=>rt [wr 38 O6] {is:=[10],js:=[11]})))) (rt [] {is:=[10],js:=[11]})) (kA λ_=>nd (λO7=>rt [wr 24 O7] {is:=[21],js:=[22]})))))) (rt [] {is:=[5],js:=[6]})) (kA λ_=>nd (λO8=>rt [wr 18 O8] {is:=[23],js:=[24]}))) (rt [] {is:=[3],js:=[4]})) (kA λ_=>rt [] {is:=[25],js:=[26]})))
def uz (n:Nat) (X5:CD) (X13:CD) (K3:Int×Int):Option (Lp (Int×Int) Int):=bif decide (K3.2<(X13.length:Int)) then((aq X13 K3.2).bind λX15=>(aq X5 X15).bind λX17=>bif decide ((0:Int)<X17) then bif decide (K3.1<0) then some (true) else(aq X13 K3.2).bind λX19=>(aq X5 X19).bind λX21=>(aq X5 K3.1).bind λX23=>some (decide (X21<X23)) else some (false):Option Bool).bind λG1=>bif G1 then(aq X13 K3.2).bind λX25=>ar (inR .i64 (K3.2+1))<|some (.nx (X25,K3.2+1)) else ar (inR .i64 (K3.2+1))<|some (.nx (K3.1,K3.2+1)) else some (.br K3.1)
def uy (n:Nat) (d0:Cw) (X5:CD) (K2:List Bs×Int):Option (Lp (List Bs×Int) (List Bs)):=(aq X5 K2.2).bind λX11=>bif decide ((1:Int)<X11) then(dW n d0 K2.2).bind λX13=>(av (uz n X5 X13) n ((-1:Int),(0:Int))).bind λG2=>(aq d0 G2).bind λX27=>ar ((K2.1.length+1)*16≤140737488355328)<|some (.nx (K2.1++[X27.aE],G2)) else some (.br K2.1)
def nC (n:Nat) (d0:Cw) (K1:Int):Option (Lp Int (Sum (List Bs) Unit)):=bif decide (K1<(d0.length:Int)) then(aq d0 K1).bind λX1=>(cp n d0 X1.aE).bind λX3=>bif !(decide (X3=K1)) then ar (inR .i64 (K1+1))<|some (.nx (K1+1)) else(qI n d0 K1).bind λX5=>(aq X5 K1).bind λX7=>bif decide (X7=0) then ar (inR .i64 (K1+1))<|some (.nx (K1+1)) else(aq d0 K1).bind λX9=>(av (uy n d0 X5) n (([X9.aE]:List Bs),K1)).bind λG3=>some (.br (.inl G3)) else some (.br (.inr ()))
def ox (n:Nat) (d0:Cw):Option (List Bs):=(av (nC n d0) n (0:Int)).bind λQ1=>(match Q1 with|.inl G4=>some (G4)|.inr G5=>some ([]:List Bs))
set_option maxRecDepth 20000 in
theorem BQ (n:Nat) (d0:Cw) (z:Zs):oK ([sX 15 bb (z 0) d0]) [] 255 [wX (z 0) d0] (ox n d0) (λr y=>⟨(y 1).sl r.length,[rX 9 1 (y 1) r],[qX 1 Dat.str (y 1) r]⟩):=
 fn 94 Tryz.func255 (lp [] {} (λK1 _ _=>{L:=[(3,.int .i64 K1)],ks:=[0]}) (λx z b=>match x with|.inl G4=>{e:=.ret,L:=[(2,(z 1).sl G4.length)],E:=[(41,rX 9 1 (z 1) G4)],F:=[(40,qX 1 Dat.str (z 1) G4)]}|.inr G5=>{e:=.exit 0}) (λK1=>br [] (ob (λX1 X2=>ob (λ_ X4=>br [I 0 1 bJ X2,K 1 0,C (pO n d0 X1.aE) X4 [0] [] 5] (nd (λO1=>rt [wr 15 O1])) (ob (λ_ X6=>ob (λ_ X8=>br [C (ref15_steps_C n d0 K1) X6 [0] [] 5,Re 5 5 6 (tI .i64) X8,X 7,Rd 5 6 0] (nd (λO2=>rt [wr 15 O2])) (ob (λX9 X10=>lp [I 0 8 bJ X10,K 8 0,ao 12,lr 12 13 tS [(X9.aE,[])]] {is:=[13],js:=[12]} (λK2 z _=>{L:=[(5,(z 1).sl K2.1.length),(6,.int .i64 K2.2)],ks:=[0,4],E:=[(15,rX 9 1 (z 1) K2.1)],x:=[12],F:=[(14,qX 1 Dat.str (z 1) K2.1)]}) (λG3 z _=>{e:=.exit 2,L:=[(5,(z 1).sl G3.length)],E:=[(39,rX 9 1 (z 1) G3)],x:=[12],F:=[(38,qX 1 Dat.str (z 1) G3)]}) (λK2=>ob (λ_ X12=>br [Re 5 5 16 (tI .i64) X12,X 17,Rd 5 16 0] (ob (λ_ X14=>lp [C (yj n d0 K2.2) X14 [0] [] 18] {} (λK3 _ _=>{L:=[(8,.int .i64 K3.1),(9,.int .i64 K3.2)],ks:=[0,4,5,7]}) (λG2 _ _=>{e:=.exit 4,L:=[(8,.int .i64 G2)],ks:=[0,4,5]}) (λK3=>br [] (jn (.reg 15) [] (λG1 _ _=>{L:=[(79,.bool G1)],ks:=[0,4,5,7,8,9]}) (ob (λ_ X16=>ob (λ_ X18=>bh (.reg 15) [Re 18 18 19 (tI .i64) X16,Re 5 5 21 (tI .i64) X18] (λB6=>bh (.reg 15) [] (λB7=>rt [ch [] [(62,⟨cB B6⟩),(65,⟨cB B7⟩)],X 20,Rd 18 19 0,X 22,Rd 5 21 0,cd true,cd true,cd true,cd true,cd true,cd true]) (λB7=>ob (λ_ X20=>ob (λ_ X22=>ob (λ_ X24=>rt [Re 18 18 23 (tI .i64) X20,Re 5 5 25 (tI .i64) X22,Re 5 5 27 (tI .i64) X24,ch [] [(62,⟨cB B6⟩),(65,⟨cB B7⟩)],X 20,Rd 18 19 0,X 22,Rd 5 21 0,X 24,Rd 18 23 0,X 26,Rd 5 25 0,X 28,Rd 5 27 0]))))) (λB6=>rt [ch [] [(62,⟨cB B6⟩)],X 20,Rd 18 19 0,X 22,Rd 5 21 0,cd true,cd true,cd true,cd true,cd true,cd true])))) (kA λ_=>br [] (ob (λ_ X26=>nd (λO3=>rt [Re 18 18 29 (tI .i64) X26,X 30,Rd 18 29 0,wr 53 O3]))) (nd (λO4=>rt [wr 53 O4])))) (rt [])) (kA λ_=>ob (λX27 X28=>nd (λO5=>rt [I 0 31 bJ X28,K 31 0,ao 35,lk 35 36 tS [(X27.aE,[])],ap (ys:=[X27.aE]) 15 14 36 37 tS O5] {is:=[37],js:=[15]}))))) (rt [] {is:=[14],js:=[15]}))) (kA λ_=>rt [] {is:=[38],js:=[39]}))))))))) (rt [])) (kS (kA λ_=>rt [] {is:=[40],js:=[41]}) (kA λ_=>rt [nr 40 41 9 tS] {is:=[41],js:=[40]})))
def pL (n:Nat) (d1:List Bs) (X9:List Bs) (K2:Int):Option (Lp Int (Sum Unit Unit)):=bif decide (K2<(X9.length:Int)) then(aq X9 K2).bind λX11=>(sD n d1 X11).bind λX13=>bif !X13 then some (.br (.inl ())) else ar (inR .i64 (K2+1))<|some (.nx (K2+1)) else some (.br (.inr ()))
def pM (n:Nat) (d0:Cw) (X15:List Bs) (K3:Int):Option (Lp Int (Sum Unit Unit)):=bif decide (K3<(X15.length:Int)) then(aq X15 K3).bind λX17=>(cp n d0 X17).bind λX19=>bif decide (X19<0) then some (.br (.inl ())) else ar (inR .i64 (K3+1))<|some (.nx (K3+1)) else some (.br (.inr ()))
def pK (n:Nat) (d0:Cw) (d1:List Bs) (K1:Int):Option (Lp Int (Sum Int Unit)):=bif decide (K1<(d0.length:Int)) then(aq d0 K1).bind λX1=>(cp n d0 X1.aE).bind λX3=>bif !(decide (X3=K1)) then some (.br (.inl (41:Int))) else((pg n X1.aE).bind λX5=>bif !X5 then some (true) else bif decide (X1.aA=4) then some (true) else(zN n X1 (6:Int)).bind λX7=>some (!X7):Option Bool).bind λG1=>bif G1 then some (.br (.inl (150:Int))) else(tM n X1).bind λX9=>(av (pL n d1 X9) n (0:Int)).bind λQ3=>(match Q3 with|.inl G2=>some (.br (.inl (150:Int)))|.inr G3=>(mH n X1).bind λX15=>(av (pM n d0 X15) n (0:Int)).bind λQ4=>(match Q4 with|.inl G4=>some (.br (.inl (150:Int)))|.inr G5=>ar (inR .i64 (K1+1))<|some (.nx (K1+1)))) else some (.br (.inr ()))
def qG (n:Nat) (d0:Cw) (d1:List Bs):Option Int:=bif decide ((6:Int)<(d0.length:Int)) then some (3:Int) else(av (pK n d0 d1) n (0:Int)).bind λQ1=>(match Q1 with|.inl G6=>some (G6)|.inr G7=>(ox n d0).bind λX23=>bif decide ((0:Int)<(X23.length:Int)) then some (150:Int) else some (0:Int))
set_option maxRecDepth 20000 in
theorem ref15_Check_C (n:Nat) (d0:Cw) (d1:List Bs) (z:Zs):oK ([sX 15 bb (z 0) d0,sX 1 Dat.str (z 1) d1]) [] 213 [wX (z 0) d0,wX (z 1) d1] (qG n d0 d1) (λr y=>⟨.int .i64 r,[],[]⟩):=
 fn 78 Tryz.func213 (br [] (rt []) (lp [] {} (λK1 _ _=>{L:=[(5,.int .i64 K1)],ks:=[0,1]}) (λx z b=>match x with|.inl G6=>{e:=.ret,L:=[(4,.int .i64 G6)]}|.inr G7=>{e:=.exit 0,ks:=[0]}) (λK1=>br [] (ob (λX1 X2=>ob (λ_ X4=>br [I 0 2 bJ X2,K 2 0,al 6,Sn 6,O 6,C (pO n d0 X1.aE) X4 [0] [] 7] (rt []) (jn (.reg 9) [] (λG1 _ _=>{L:=[(43,.bool G1)],ks:=[0,1,5,6]}) (ob (λ_ X6=>bs [O 6,C (yb n X1.aE) X6 [] [] 7] 34 (rt []) (bs [O 6] 39 (rt []) (ob (λ_ X8=>rt [O 6,C (ref15_shape_C n X1 (6:Int)) X8 [3,4,5] [] 7]))))) (kA λ_=>br [] (rt []) (ob (λ_ X10=>lp [O 6,C (BR n X1) X10 [3,4,5] [] 7] {} (λK2 _ _=>{L:=[(8,.int .i64 K2)],ks:=[0,1,5,6,7]}) (λx z b=>match x with|.inl G2=>{e:=.ret,L:=[(4,.int .i64 150)]}|.inr G3=>{e:=.exit 2,ks:=[0,1,5,6]}) (λK2=>br [] (ob (λX11 X12=>ob (λ_ X14=>br [I 7 8 tS X12,K 8 0,C (zL n d1 X11) X14 [1] [] 9] (rt []) (nd (λO1=>rt [wr 51 O1]))))) (rt [])) (kS (kA λ_=>rt []) (kA λ_=>ob (λ_ X16=>lp [O 6,C (wZ n X1) X16 [3,4,5] [] 9] {} (λK3 _ _=>{L:=[(10,.int .i64 K3)],ks:=[0,1,5,9]}) (λx z b=>match x with|.inl G4=>{e:=.ret,L:=[(4,.int .i64 150)]}|.inr G5=>{e:=.exit 4,ks:=[0,1,5]}) (λK3=>br [] (ob (λX17 X18=>ob (λ_ X20=>br [Re 9 9 10 tS X18,X 11,Rd 9 10 0,C (pO n d0 X17) X20 [0] [] 12] (rt []) (nd (λO2=>rt [wr 66 O2]))))) (rt [])) (kS (kA λ_=>rt []) (kA λ_=>nd (λO3=>rt [wr 19 O3]))))))))))))) (rt [])) (kS (kA λ_=>rt []) (kA λ_=>ob (λ_ X24=>br [C (BQ n d0) X24 [0] [] 12] (rt []) (rt []))))))
open Go.Ck
abbrev oT (rec_ref15_whole: (List cy)→Int→(List aG)→(List Bool)→(List Bool)→(List Bool)→Option (List Bool×List Bool×List Bool)):Prop:=∀ (d0:List cy) (d1:Int) (d2:List aG) (dh:List Bool) (dl:List Bool) (dm:List Bool) (z:Zs),OkC Tryz.prog ([.sli 15 bb (z 0).A (z 0).c d0,.sli 8 aj (z 1).A (z 1).c d2,.seq 1 Dat.bool dh (z 6).k,.seq 1 Dat.bool dl (z 7).k,.seq 1 Dat.bool dm (z 8).k]) [.obj (z 5).b (.cells #[(z 6).sl dh.length,(z 7).sl dl.length,(z 8).sl dm.length] 324 (0,0)),.row 4 1 ((z 6).sl dh.length) dh.length (z 6).k,.row 4 1 ((z 7).sl dl.length) dl.length (z 7).k,.row 4 1 ((z 8).sl dm.length) dm.length (z 8).k] 214 [(z 0).sl d0.length,.int .i64 d1,(z 1).sl d2.length,.pointer (some ⟨(z 5).b,0,none⟩)] (rec_ref15_whole d0 d1 d2 dh dl dm) (λr y=>⟨.tuple #[],[.obj (z 5).b (.cells #[(y 4).sl r.1.length,(y 5).sl r.2.1.length,(y 6).sl r.2.2.length] 324 (0,0)),.row 4 1 ((y 4).sl r.1.length) r.1.length (y 4).k,.row 4 1 ((y 5).sl r.2.1.length) r.2.1.length (y 5).k,.row 4 1 ((y 6).sl r.2.2.length) r.2.2.length (y 6).k],[.seq 1 Dat.bool r.1 (y 4).k,.seq 1 Dat.bool r.2.1 (y 5).k,.seq 1 Dat.bool r.2.2 (y 6).k]⟩)
abbrev Ab (rec_ref15_part_2: (List cy)→cy→(List aG)→(List Bool)→(List Bool)→(List Bool)→Option (Bool×Bool×List Bool×List Bool×List Bool)):Prop:=∀ (d0:List cy) (d1:cy) (d2:List aG) (dh:List Bool) (dl:List Bool) (dm:List Bool) (z:Zs),OkC Tryz.prog ([.sli 15 bb (z 0).A (z 0).c d0]++bJ.facts d1 (sh 1 z)++[.sli 8 aj (z 4).A (z 4).c d2]++[.seq 1 Dat.bool dh (z 9).k]++[.seq 1 Dat.bool dl (z 10).k]++[.seq 1 Dat.bool dm (z 11).k]) [.obj (z 8).b (.cells #[(z 9).sl dh.length,(z 10).sl dl.length,(z 11).sl dm.length] 324 (0,0)),.row 4 1 ((z 9).sl dh.length) dh.length (z 9).k,.row 4 1 ((z 10).sl dl.length) dl.length (z 10).k,.row 4 1 ((z 11).sl dm.length) dm.length (z 11).k] 256 [(z 0).sl d0.length,bJ.ag d1 (sh 1 z),(z 4).sl d2.length,.pointer (some ⟨(z 8).b,0,none⟩)] (rec_ref15_part_2 d0 d1 d2 dh dl dm) (λr y=>⟨.tuple #[.bool r.1,.bool r.2.1],[.obj (z 8).b (.cells #[(y 4).sl r.2.2.1.length,(y 5).sl r.2.2.2.1.length,(y 6).sl r.2.2.2.2.length] 324 (0,0)),.row 4 1 ((y 4).sl r.2.2.1.length) r.2.2.1.length (y 4).k,.row 4 1 ((y 5).sl r.2.2.2.1.length) r.2.2.2.1.length (y 5).k,.row 4 1 ((y 6).sl r.2.2.2.2.length) r.2.2.2.2.length (y 6).k],[.seq 1 Dat.bool r.2.2.1 (y 4).k,.seq 1 Dat.bool r.2.2.2.1 (y 5).k,.seq 1 Dat.bool r.2.2.2.2 (y 6).k]⟩)
def uB (n:Nat) (rec_ref15_part_2:Cw→cy→Cp→CE→CE→CE→Option (Bool×Bool×CE×CE×CE)) (d0:Cw) (d1:cy) (d2:Cp) (K1:Bool×Bool×Bool×Int×CE×CE×CE):Option (Lp (Bool×Bool×Bool×Int×CE×CE×CE) (Bool×Bool×Bool×CE×CE×CE)):=bif decide (K1.2.2.2.1<(d1.fL.length:Int)) then(aq d1.fL K1.2.2.2.1).bind λX15=>(rec_ref15_part_2 d0 X15 d2 K1.2.2.2.2.1 K1.2.2.2.2.2.1 K1.2.2.2.2.2.2).bind λX17=>(bif K1.1 then some (X17.1) else some (false):Option Bool).bind λG2=>(bif K1.2.1 then some (true) else some (X17.1):Option Bool).bind λG3=>bif K1.2.2.1 then ar (inR .i64 (K1.2.2.2.1+1))<|some (.nx ((G2),(G3),(true),K1.2.2.2.1+1,X17.2.2.1,X17.2.2.2.1,X17.2.2.2.2)) else ar (inR .i64 (K1.2.2.2.1+1))<|some (.nx ((G2),(G3),(X17.2.1),K1.2.2.2.1+1,X17.2.2.1,X17.2.2.2.1,X17.2.2.2.2)) else some (.br ((K1.1),(K1.2.1),(K1.2.2.1),K1.2.2.2.2.1,K1.2.2.2.2.2.1,K1.2.2.2.2.2.2))
def pT (n:Nat) (rec_ref15_whole:Cw→Int→Cp→CE→CE→CE→Option (CE×CE×CE)) (rec_ref15_part_2:Cw→cy→Cp→CE→CE→CE→Option (Bool×Bool×CE×CE×CE)) (d0:Cw) (d1:cy) (d2:Cp) (dh:CE) (dl:CE) (dm:CE):Option (Bool×Bool×CE×CE×CE):=bif decide (d1.aA=0) then(iU n d1.fA d2).bind λX1=>(iU n d1.fB d2).bind λX3=>((kg n X1.1.fV X3.1.fV).bind λX5=>bif X1.1.dw then some ((X5),(true)) else some ((X5),(X3.1.dw)):Option (Bool×Bool)).bind λG1=>some ((G1.1),(G1.2),dh,dl,dm) else bif decide (d1.aA=4) then(cp n d0 d1.aE).bind λX7=>(rec_ref15_whole d0 X7 d2 dh dl dm).bind λX9=>(aq X9.2.1 X7).bind λX11=>(aq X9.2.2 X7).bind λX13=>some ((X11),(X13),X9.1,X9.2.1,X9.2.2) else(av (uB n rec_ref15_part_2 d0 d1 d2) n ((true),(false),(false),(0:Int),dh,dl,dm)).bind λG4=>bif decide (d1.aA=1) then some ((G4.1),(G4.2.2.1),G4.2.2.2.1,G4.2.2.2.2.1,G4.2.2.2.2.2) else bif decide (d1.aA=2) then some ((G4.2.1),(G4.2.2.1),G4.2.2.2.1,G4.2.2.2.2.1,G4.2.2.2.2.2) else some ((!G4.1),(G4.2.2.1),G4.2.2.2.1,G4.2.2.2.2.1,G4.2.2.2.2.2)
set_option maxRecDepth 20000 in
theorem zg (n:Nat) (rec_ref15_whole:Cw→Int→Cp→CE→CE→CE→Option (CE×CE×CE)) (rec_ref15_part_2:Cw→cy→Cp→CE→CE→CE→Option (Bool×Bool×CE×CE×CE)) (hrec_ref15_whole:oT rec_ref15_whole) (hrec_ref15_part_2:Ab rec_ref15_part_2) (d0:Cw) (d1:cy) (d2:Cp) (dh:CE) (dl:CE) (dm:CE) (z:Zs):oK ([sX 15 bb (z 0) d0]++bJ.facts d1 (sh 1 z)++[sX 8 aj (z 4) d2]++[qX 1 Dat.bool (z 9) dh]++[qX 1 Dat.bool (z 10) dl]++[qX 1 Dat.bool (z 11) dm]) [.obj (z 8).b (.cells #[wX (z 9) dh,wX (z 10) dl,wX (z 11) dm] 324 (0,0)),rX 4 1 (z 9) dh,rX 4 1 (z 10) dl,rX 4 1 (z 11) dm] 256 [wX (z 0) d0,bJ.ag d1 (sh 1 z),wX (z 4) d2,.pointer (some ⟨(z 8).b,0,none⟩)] (pT n rec_ref15_whole rec_ref15_part_2 d0 d1 d2 dh dl dm) (λr y=>⟨.tuple #[.bool r.1,.bool r.2.1],[.obj (z 8).b (.cells #[wX (y 4) r.2.2.1,wX (y 5) r.2.2.2.1,wX (y 6) r.2.2.2.2] 324 (0,0)),rX 4 1 (y 4) r.2.2.1,rX 4 1 (y 5) r.2.2.2.1,rX 4 1 (y 6) r.2.2.2.2],[qX 1 Dat.bool (y 4) r.2.2.1,qX 1 Dat.bool (y 5) r.2.2.2.1,qX 1 Dat.bool (y 6) r.2.2.2.2]⟩):=
 fn 119 Tryz.func256 (br [bx 8,K 8 1] (ob (λX1 X2=>ob (λX3 X4=>jn (.reg 5) [K 8 2,C (rE n d1.fA d2) X2 [1,4] [] 9,al 11,Sn 11,K 8 8,C (rE n d1.fB d2) X4 [2,4] [] 12,al 14,Sn 14] (λG1 _ _=>{L:=[(8,.bool G1.1),(9,.bool G1.2)]}) (ob (λ_ X6=>bh (.reg 5) [] (λB2=>rt [ch [] [(46,⟨cB B2⟩)],O 11,O 14,C (ma n X1.1.fV X3.1.fV) X6 [9,10,12,13] [] 15,O 11,cd true]) (λB2=>rt [ch [] [(46,⟨cB B2⟩)],O 11,O 14,C (ma n X1.1.fV X3.1.fV) X6 [9,10,12,13] [] 15,O 11,O 14]))) (kA λ_=>rt [] {is:=[5,6,7],js:=[0,1,2,3]})))) (br [] (ob (λX7 X8=>ob (λ_ X10=>ob (λ_ X12=>ob (λ_ X14=>rt [K 8 0,C (pO n d0 d1.aE) X8 [0] [] 9,C (hrec_ref15_whole d0 X7 d2 dh dl dm) X10 [0,4,5,6,7] [0,1,2,3] 9,Re 2 10 12 tB X12,Re 3 11 14 tB X14,O 0,X 13,Rd 2 12 0,O 0,X 15,Rd 3 14 0] {is:=[9,10,11],js:=[0,1,2,3]}))))) (lp [] {is:=[5,6,7],js:=[1,2,3]} (λK1 z _=>{L:=[(15,.bool K1.1),(16,.bool K1.2.1),(17,.bool K1.2.2.1),(18,.int .i64 K1.2.2.2.1)],ks:=[0,2,3,5],E:=[(10,rX 4 1 (z 3) K1.2.2.2.2.1),(12,rX 4 1 (z 4) K1.2.2.2.2.2.1),(14,rX 4 1 (z 5) K1.2.2.2.2.2.2)],x:=[1,2,3],m:=[(0,0,(z 3).sl K1.2.2.2.2.1.length),(0,1,(z 4).sl K1.2.2.2.2.2.1.length),(0,2,(z 5).sl K1.2.2.2.2.2.2.length)],F:=[(9,qX 1 Dat.bool (z 3) K1.2.2.2.2.1),(11,qX 1 Dat.bool (z 4) K1.2.2.2.2.2.1),(13,qX 1 Dat.bool (z 5) K1.2.2.2.2.2.2)]}) (λG4 z _=>{e:=.exit 1,L:=[(15,.bool G4.1),(16,.bool G4.2.1),(17,.bool G4.2.2.1)],ks:=[5],E:=[(23,rX 4 1 (z 3) G4.2.2.2.1),(25,rX 4 1 (z 4) G4.2.2.2.2.1),(27,rX 4 1 (z 5) G4.2.2.2.2.2)],x:=[1,2,3],m:=[(0,0,(z 3).sl G4.2.2.2.1.length),(0,1,(z 4).sl G4.2.2.2.2.1.length),(0,2,(z 5).sl G4.2.2.2.2.2.length)],F:=[(22,qX 1 Dat.bool (z 3) G4.2.2.2.1),(24,qX 1 Dat.bool (z 4) G4.2.2.2.2.1),(26,qX 1 Dat.bool (z 5) G4.2.2.2.2.2)]}) (λK1=>br [K 8 14] (ob (λX15 X16=>ob (λ_ X18=>jn (.reg 15) [K 8 14,I 3 15 bJ X16,K 15 0,C (hrec_ref15_part_2 d0 X15 d2 K1.2.2.2.2.1 K1.2.2.2.2.2.1 K1.2.2.2.2.2.2) X18 [0,16,17,18,4,9,11,13] [0,10,12,14] 19] (λG2 _ _=>{L:=[(15,.bool G2)],ks:=[0,2,3,5,16,17,18,19,20]}) (bs [] 95 (rt []) (rt [])) (kA λ_=>jn (.reg 16) [] (λG3 _ _=>{L:=[(16,.bool G3)],ks:=[0,2,3,5,15,17,18,20]}) (bs [] 99 (rt []) (rt [])) (kA λ_=>bs [] 103 (nd (λO1=>rt [wr 81 O1] {is:=[19,20,21],js:=[10,12,14]})) (nd (λO2=>rt [wr 81 O2] {is:=[19,20,21],js:=[10,12,14]}))))))) (rt [] {is:=[9,11,13],js:=[10,12,14]})) (kA λ_=>br [K 8 1] (rt [] {is:=[22,24,26],js:=[0,23,25,27]}) (br [] (rt [] {is:=[22,24,26],js:=[0,23,25,27]}) (rt [] {is:=[22,24,26],js:=[0,23,25,27]}))))))
def gO (n:Nat) (rec_ref15_whole:Cw→Int→Cp→CE→CE→CE→Option (CE×CE×CE)):Nat→Cw→cy→Cp→CE→CE→CE→Option (Bool×Bool×CE×CE×CE)|0=>λ_ _ _ _ _ _=>none|k+1=>pT n rec_ref15_whole (gO n rec_ref15_whole k)
def yk (n:Nat) (rec_ref15_whole:Cw→Int→Cp→CE→CE→CE→Option (CE×CE×CE)) (d0:Cw) (d1:cy) (d2:Cp) (dh:CE) (dl:CE) (dm:CE):Option (Bool×Bool×CE×CE×CE):=gO n rec_ref15_whole n d0 d1 d2 dh dl dm
theorem BT (n:Nat) (rec_ref15_whole:Cw→Int→Cp→CE→CE→CE→Option (CE×CE×CE)) (hrec_ref15_whole:oT rec_ref15_whole) (d0:Cw) (d1:cy) (d2:Cp) (dh:CE) (dl:CE) (dm:CE) (z:Zs):oK ([sX 15 bb (z 0) d0]++bJ.facts d1 (sh 1 z)++[sX 8 aj (z 4) d2]++[qX 1 Dat.bool (z 9) dh]++[qX 1 Dat.bool (z 10) dl]++[qX 1 Dat.bool (z 11) dm]) [.obj (z 8).b (.cells #[wX (z 9) dh,wX (z 10) dl,wX (z 11) dm] 324 (0,0)),rX 4 1 (z 9) dh,rX 4 1 (z 10) dl,rX 4 1 (z 11) dm] 256 [wX (z 0) d0,bJ.ag d1 (sh 1 z),wX (z 4) d2,.pointer (some ⟨(z 8).b,0,none⟩)] (yk n rec_ref15_whole d0 d1 d2 dh dl dm) (λr y=>⟨.tuple #[.bool r.1,.bool r.2.1],[.obj (z 8).b (.cells #[wX (y 4) r.2.2.1,wX (y 5) r.2.2.2.1,wX (y 6) r.2.2.2.2] 324 (0,0)),rX 4 1 (y 4) r.2.2.1,rX 4 1 (y 5) r.2.2.2.1,rX 4 1 (y 6) r.2.2.2.2],[qX 1 Dat.bool (y 4) r.2.2.1,qX 1 Dat.bool (y 5) r.2.2.2.1,qX 1 Dat.bool (y 6) r.2.2.2.2]⟩):=by
 have key: ∀ (k:Nat) (d0:Cw) (d1:cy) (d2:Cp) (dh:CE) (dl:CE) (dm:CE) (z:Zs),oK ([sX 15 bb (z 0) d0]++bJ.facts d1 (sh 1 z)++[sX 8 aj (z 4) d2]++[qX 1 Dat.bool (z 9) dh]++[qX 1 Dat.bool (z 10) dl]++[qX 1 Dat.bool (z 11) dm]) [.obj (z 8).b (.cells #[wX (z 9) dh,wX (z 10) dl,wX (z 11) dm] 324 (0,0)),rX 4 1 (z 9) dh,rX 4 1 (z 10) dl,rX 4 1 (z 11) dm] 256 [wX (z 0) d0,bJ.ag d1 (sh 1 z),wX (z 4) d2,.pointer (some ⟨(z 8).b,0,none⟩)] (gO n rec_ref15_whole k d0 d1 d2 dh dl dm) (λr y=>⟨.tuple #[.bool r.1,.bool r.2.1],[.obj (z 8).b (.cells #[wX (y 4) r.2.2.1,wX (y 5) r.2.2.2.1,wX (y 6) r.2.2.2.2] 324 (0,0)),rX 4 1 (y 4) r.2.2.1,rX 4 1 (y 5) r.2.2.2.1,rX 4 1 (y 6) r.2.2.2.2],[qX 1 Dat.bool (y 4) r.2.2.1,qX 1 Dat.bool (y 5) r.2.2.2.1,qX 1 Dat.bool (y 6) r.2.2.2.2]⟩):=by
  intro k
  induction k with
  |zero=>intros;exact OkC.none
  |succ k ih=>exact zg n rec_ref15_whole (gO n rec_ref15_whole k) hrec_ref15_whole ih
 exact key n d0 d1 d2 dh dl dm z
def rK (n:Nat) (rec_ref15_whole:Cw→Int→Cp→CE→CE→CE→Option (CE×CE×CE)) (d0:Cw) (d1:Int) (d2:Cp) (dh:CE) (dl:CE) (dm:CE):Option (CE×CE×CE):=(aq dh d1).bind λX1=>bif X1 then some (dh,dl,dm) else(aq d0 d1).bind λX3=>(yk n rec_ref15_whole d0 X3 d2 dh dl dm).bind λX5=>(aq X5.2.2.1 d1).bind λX7=>(aq X5.2.2.2.1 d1).bind λX9=>(aq X5.2.2.2.2 d1).bind λX11=>some (X5.2.2.1.set d1.toNat (true),X5.2.2.2.1.set d1.toNat (X5.1),X5.2.2.2.2.set d1.toNat (X5.2.1))
theorem Av (n:Nat) (rec_ref15_whole:Cw→Int→Cp→CE→CE→CE→Option (CE×CE×CE)) (hrec_ref15_whole:oT rec_ref15_whole) (d0:Cw) (d1:Int) (d2:Cp) (dh:CE) (dl:CE) (dm:CE) (z:Zs):oK ([sX 15 bb (z 0) d0,sX 8 aj (z 1) d2,qX 1 Dat.bool (z 6) dh,qX 1 Dat.bool (z 7) dl,qX 1 Dat.bool (z 8) dm]) [.obj (z 5).b (.cells #[wX (z 6) dh,wX (z 7) dl,wX (z 8) dm] 324 (0,0)),rX 4 1 (z 6) dh,rX 4 1 (z 7) dl,rX 4 1 (z 8) dm] 214 [wX (z 0) d0,.int .i64 d1,wX (z 1) d2,.pointer (some ⟨(z 5).b,0,none⟩)] (rK n rec_ref15_whole d0 d1 d2 dh dl dm) (λr y=>⟨.tuple #[],[.obj (z 5).b (.cells #[wX (y 4) r.1,wX (y 5) r.2.1,wX (y 6) r.2.2] 324 (0,0)),rX 4 1 (y 4) r.1,rX 4 1 (y 5) r.2.1,rX 4 1 (y 6) r.2.2],[qX 1 Dat.bool (y 4) r.1,qX 1 Dat.bool (y 5) r.2.1,qX 1 Dat.bool (y 6) r.2.2]⟩):=
 fn 48 Tryz.func214 (ob (λ_ X2=>br [O 0,Re 1 2 5 tB X2,X 6,Rd 1 5 0] (rt [] {is:=[2,3,4],js:=[0,1,2,3]}) (ob (λX3 X4=>ob (λX5 X6=>ob (λ_ X8=>ob (λ_ X10=>ob (λ_ X12=>rt [I 0 7 bJ X4,K 7 0,C (BT n rec_ref15_whole hrec_ref15_whole d0 X3 d2 dh dl dm) X6 [0,8,9,10,1,2,3,4] [0,1,2,3] 11,O 0,Re 1 11 14 tB X8,X 15,Sr1 1 11 15 16 tB X8 (true) [] [31] [(0,0)],O 0,Re 2 12 17 tB X10,X 18,Sr1 2 12 18 19 tB X10 (X5.1) [] [37] [(0,1)],O 0,Re 3 13 20 tB X12,X 21,Sr1 3 13 21 22 tB X12 (X5.2.1) [] [44] [(0,2)]] {is:=[16,19,22],js:=[0,1,2,3]}))))))))
def ij (n:Nat):Nat→Cw→Int→Cp→CE→CE→CE→Option (CE×CE×CE)|0=>λ_ _ _ _ _ _=>none|k+1=>rK n (ij n k)
def zO (n:Nat) (d0:Cw) (d1:Int) (d2:Cp) (dh:CE) (dl:CE) (dm:CE):Option (CE×CE×CE):=ij n n d0 d1 d2 dh dl dm
theorem ref15_whole_C (n:Nat) (d0:Cw) (d1:Int) (d2:Cp) (dh:CE) (dl:CE) (dm:CE) (z:Zs):oK ([sX 15 bb (z 0) d0,sX 8 aj (z 1) d2,qX 1 Dat.bool (z 6) dh,qX 1 Dat.bool (z 7) dl,qX 1 Dat.bool (z 8) dm]) [.obj (z 5).b (.cells #[wX (z 6) dh,wX (z 7) dl,wX (z 8) dm] 324 (0,0)),rX 4 1 (z 6) dh,rX 4 1 (z 7) dl,rX 4 1 (z 8) dm] 214 [wX (z 0) d0,.int .i64 d1,wX (z 1) d2,.pointer (some ⟨(z 5).b,0,none⟩)] (zO n d0 d1 d2 dh dl dm) (λr y=>⟨.tuple #[],[.obj (z 5).b (.cells #[wX (y 4) r.1,wX (y 5) r.2.1,wX (y 6) r.2.2] 324 (0,0)),rX 4 1 (y 4) r.1,rX 4 1 (y 5) r.2.1,rX 4 1 (y 6) r.2.2],[qX 1 Dat.bool (y 4) r.1,qX 1 Dat.bool (y 5) r.2.1,qX 1 Dat.bool (y 6) r.2.2]⟩):=by
 have key: ∀ (k:Nat) (d0:Cw) (d1:Int) (d2:Cp) (dh:CE) (dl:CE) (dm:CE) (z:Zs),oK ([sX 15 bb (z 0) d0,sX 8 aj (z 1) d2,qX 1 Dat.bool (z 6) dh,qX 1 Dat.bool (z 7) dl,qX 1 Dat.bool (z 8) dm]) [.obj (z 5).b (.cells #[wX (z 6) dh,wX (z 7) dl,wX (z 8) dm] 324 (0,0)),rX 4 1 (z 6) dh,rX 4 1 (z 7) dl,rX 4 1 (z 8) dm] 214 [wX (z 0) d0,.int .i64 d1,wX (z 1) d2,.pointer (some ⟨(z 5).b,0,none⟩)] (ij n k d0 d1 d2 dh dl dm) (λr y=>⟨.tuple #[],[.obj (z 5).b (.cells #[wX (y 4) r.1,wX (y 5) r.2.1,wX (y 6) r.2.2] 324 (0,0)),rX 4 1 (y 4) r.1,rX 4 1 (y 5) r.2.1,rX 4 1 (y 6) r.2.2],[qX 1 Dat.bool (y 4) r.1,qX 1 Dat.bool (y 5) r.2.1,qX 1 Dat.bool (y 6) r.2.2]⟩):=by
  intro k
  induction k with
  |zero=>intros;exact OkC.none
  |succ k ih=>exact Av n (ij n k) ih
 exact key n d0 d1 d2 dh dl dm z
def yh (n:Nat) (d1:Cp) (K1:List Bs×Int):Option (Lp (List Bs×Int) (List Bs)):=bif decide (K1.2<(d1.length:Int)) then(aq d1 K1.2).bind λX1=>ar ((K1.1.length+1)*16≤140737488355328)<|ar (inR .i64 (K1.2+1))<|some (.nx (K1.1++[X1.aE],K1.2+1)) else some (.br K1.1)
def yi (n:Nat) (d0:Cw) (d1:Cp) (K2:Cp×Int×CE×CE×CE):Option (Lp (Cp×Int×CE×CE×CE) (Sum (CE×CE×CE) (Cp×CE×CE×CE))):=bif decide (K2.2.1<(d0.length:Int)) then(zO n d0 K2.2.1 d1 K2.2.2.1 K2.2.2.2.1 K2.2.2.2.2).bind λX5=>(aq X5.2.2 K2.2.1).bind λX7=>bif X7 then some (.br (.inl (X5.1,X5.2.1,X5.2.2))) else(aq d0 K2.2.1).bind λX9=>(aq X5.2.1 K2.2.1).bind λX11=>ar ((K2.1.length+1)*104≤140737488355328)<|ar (inR .i64 (K2.2.1+1))<|some (.nx (K2.1++[(⟨X9.aE,(false),(⟨(1:Int),(X11),(0:Int),([]:Bs),([]:Cz),([]:List Bs)⟩:bz)⟩:aG)],K2.2.1+1,X5.1,X5.2.1,X5.2.2)) else some (.br (.inr (K2.1,K2.2.2.1,K2.2.2.2.1,K2.2.2.2.2)))
def ww (n:Nat) (d0:Cw) (d1:Cp):Option (Cp×Int):=(av (yh n d1) n (([]:List Bs),(0:Int))).bind λG1=>(qG n d0 G1).bind λX3=>bif !(decide (X3=0)) then some (([]:Cp),X3) else(ar (0≤(d0.length:Int)∧(d0.length:Int)*1≤140737488355328∧(d0.length:Int)≤140737488355328)<|ar (0≤(d0.length:Int)∧(d0.length:Int)*1≤140737488355328∧(d0.length:Int)≤140737488355328)<|ar (0≤(d0.length:Int)∧(d0.length:Int)*1≤140737488355328∧(d0.length:Int)≤140737488355328)<|some (⟨List.replicate (d0.length:Int).toNat (false:Bool),List.replicate (d0.length:Int).toNat (false:Bool),List.replicate (d0.length:Int).toNat (false:Bool)⟩:dE):Option dE).bind λG2=>(av (yi n d0 d1) n (([]:Cp),(0:Int),G2.done,G2.yes,G2.bad)).bind λQ5=>(match Q5 with|.inl G3=>some (([]:Cp),(150:Int))|.inr G4=>some (G4.1,(0:Int)))
set_option maxRecDepth 20000 in
theorem ref15_Run_C (n:Nat) (d0:Cw) (d1:Cp) (z:Zs):oK ([sX 15 bb (z 0) d0,sX 8 aj (z 1) d1]) [] 167 [wX (z 0) d0,wX (z 1) d1] (ww n d0 d1) (λr y=>⟨.tuple #[wX (y 1) r.1,.int .i64 r.2],[rX 186 8 (y 1) r.1],[qX 8 aj (y 1) r.1]⟩):=
 fn 79 Tryz.func167 (lp [nr 2 3 9 tS] {is:=[3],js:=[2]} (λK1 z _=>{L:=[(6,(z 1).sl K1.1.length),(7,.int .i64 K1.2)],ks:=[0,1],E:=[(5,rX 9 1 (z 1) K1.1)],x:=[2],F:=[(4,qX 1 Dat.str (z 1) K1.1)]}) (λG1 z _=>{e:=.exit 0,L:=[(6,(z 1).sl G1.length)],ks:=[0,1],E:=[(13,rX 9 1 (z 1) G1)],x:=[2],F:=[(12,qX 1 Dat.str (z 1) G1)]}) (λK1=>br [] (ob (λX1 X2=>nd (λO1=>nd (λO2=>rt [I 1 6 bc X2,K 6 0,ao 9,lk 9 10 tS [(X1.aE,[])],ap (ys:=[X1.aE]) 5 4 10 11 tS O1,wr 17 O2] {is:=[11],js:=[5]})))) (rt [] {is:=[4],js:=[5]})) (kA λG1=>ob (λ_ X4=>br [CL (ref15_Check_C n d0 G1) X4 [0,14] [(13,12,14)]] (rt [nr 15 16 186 bc] {is:=[16],js:=[15]}) (jn (.reg 9) [] (λG2 z _=>{L:=[(9,.pointer (some ⟨(z 3).b,0,none⟩))],ks:=[0,1],E:=[(22,.obj (z 3).b (.cells #[wX (z 4) G2.done,wX (z 5) G2.yes,wX (z 6) G2.bad] 324 (0,0))),(24,rX 4 1 (z 4) G2.done),(26,rX 4 1 (z 5) G2.yes),(28,rX 4 1 (z 6) G2.bad)],F:=[(23,qX 1 Dat.bool (z 4) G2.done),(25,qX 1 Dat.bool (z 5) G2.yes),(27,qX 1 Dat.bool (z 6) G2.bad)]}) (nd (λO3=>nd (λO4=>nd (λO5=>rt [ms 15 16 tB (false:Bool) O3,ms 17 18 tB (false:Bool) O4,ms 19 20 tB (false:Bool) O5,al 21] {is:=[16,18,20],js:=[21,15,17,19]})))) (kA λ_=>lp [nr 29 30 186 bc] {is:=[30,23,25,27],js:=[29,24,26,28]} (λK2 z _=>{L:=[(10,(z 4).sl K2.1.length),(11,.int .i64 K2.2.1)],ks:=[0,1,9],E:=[(32,rX 186 8 (z 4) K2.1),(34,rX 4 1 (z 5) K2.2.2.1),(36,rX 4 1 (z 6) K2.2.2.2.1),(38,rX 4 1 (z 7) K2.2.2.2.2)],x:=[24,26,28,29],m:=[(22,0,(z 5).sl K2.2.2.1.length),(22,1,(z 6).sl K2.2.2.2.1.length),(22,2,(z 7).sl K2.2.2.2.2.length)],F:=[(31,qX 8 aj (z 4) K2.1),(33,qX 1 Dat.bool (z 5) K2.2.2.1),(35,qX 1 Dat.bool (z 6) K2.2.2.2.1),(37,qX 1 Dat.bool (z 7) K2.2.2.2.2)]}) (λx z b=>match x with|.inl G3=>{e:=.ret,L:=[(4,.slice none 0 0),(5,.int .i64 150)],E:=[(57,rX 4 1 (z 3) G3.1),(59,rX 4 1 (z 4) G3.2.1),(61,rX 4 1 (z 5) G3.2.2)],x:=[24,26,28,29],m:=[(22,0,(z 3).sl G3.1.length),(22,1,(z 4).sl G3.2.1.length),(22,2,(z 5).sl G3.2.2.length)],F:=[(56,qX 1 Dat.bool (z 3) G3.1),(58,qX 1 Dat.bool (z 4) G3.2.1),(60,qX 1 Dat.bool (z 5) G3.2.2)]}|.inr G4=>{e:=.exit 2,L:=[(10,(z 4).sl G4.1.length)],E:=[(57,rX 186 8 (z 4) G4.1),(59,rX 4 1 (z 5) G4.2.1),(61,rX 4 1 (z 6) G4.2.2.1),(63,rX 4 1 (z 7) G4.2.2.2)],x:=[24,26,28,29],m:=[(22,0,(z 5).sl G4.2.1.length),(22,1,(z 6).sl G4.2.2.1.length),(22,2,(z 7).sl G4.2.2.2.length)],F:=[(56,qX 8 aj (z 4) G4.1),(58,qX 1 Dat.bool (z 5) G4.2.1),(60,qX 1 Dat.bool (z 6) G4.2.2.1),(62,qX 1 Dat.bool (z 7) G4.2.2.2)]}) (λK2=>br [] (ob (λ_ X6=>ob (λ_ X8=>br [C (ref15_whole_C n d0 K2.2.1 d1 K2.2.2.1 K2.2.2.2.1 K2.2.2.2.2) X6 [0,1,33,35,37] [22,34,36,38] 39,O 22,Re 38 41 42 tB X8,X 43,Rd 38 42 0] (rt [] {is:=[39,40,41],js:=[34,36,38]}) (ob (λX9 X10=>ob (λX11 X12=>nd (λO6=>nd (λO7=>rt [Ie 0 44 bJ X10,Re 36 40 49 tB X12,nf 52 6 aw,nf 53 1 Dat.str,ch [32] [],X 45,K 44 0,O 22,X 50,Rd 36 49 0,th (ao 51) (lk 51 54 bc [((⟨X9.aE,(false),(⟨(1:Int),(X11),(0:Int),([]:Bs),([]:Cz),([]:List Bs)⟩:bz)⟩:aG),[52,53])]),ap (ys:=[(⟨X9.aE,(false),(⟨(1:Int),(X11),(0:Int),([]:Bs),([]:Cz),([]:List Bs)⟩:bz)⟩:aG)]) 32 31 54 55 bc O6,wr 48 O7] {is:=[55,39,40,41],js:=[32,34,36,38]})))))))) (rt [] {is:=[31,33,35,37],js:=[32,34,36,38]})) (kS (kA λ_=>rt [nr 62 63 186 bc] {is:=[63],js:=[62]}) (kA λ_=>rt [] {is:=[56],js:=[57]})))))))
end Go.Proofs.YtkmbfmdhoeibhaaGreat
