/-
  Texts of this claim, packed (what nothing names is left out): QA, P9, QB, QC, QDa, QDb, QD, PA, QEt, QE, QF, Shelf, HdB, BackC, HdBC, B1, B5, B6, B3, B4. Own work, partly printed by own programs. No condition.
-/
import Derived.Test.YtkmbfmdhoeibhaaGreatPkS5
import Derived.Test.YtkmbfmdhoeibhaaGreatPkS2
import Derived.Test.YtkmbfmdhoeibhaaGreatPkS3
import Derived.Test.YtkmbfmdhoeibhaaGreatPkS4
import Derived.Shelf.Small.Bits
import Derived.Shelf.Strconv.Itoa0
import Derived.Shelf.Sort.Plain
import Derived.Ground.Names2Prog
import Derived.Shelf.Slices.CompactI
import Derived.Shelf.Slices.CompactS
import Derived.Shelf.Slices.In.SortNone
import Derived.Test.YtkmbfmdhoeibhaaGreatProg
import Derived.Test.YtkmbfmdhoeibhaaGreatPkS1
import Derived.Test.YtkmbfmdhoeibhaaGreatRows
set_option linter.unusedVariables false
set_option linter.unusedSimpArgs false
set_option maxHeartbeats 2000000
section
namespace Go.Proofs.YtkmbfmdhoeibhaaGreat
open Go Go.Vc Go.RowKit
open Go.Ck
def vT (n:Nat) (d0:cb) (d1:Bs) (K1:Int):Option (Lp Int (Sum Unit Unit)):=bif decide (K1<(d0.fT.bQ.length:Int)) then(aq d0.fT.bQ K1).bind λX1=>bif decide (X1.aE=d1) then some (.br (.inl ())) else ar (inR .i64 (K1+1))<|some (.nx (K1+1)) else some (.br (.inr ()))
variable (n:Nat)
def vS (d0:cb) (d1:Bs):Option Bool:=(av (vT n d0 d1) n (0:Int)).bind λQ2=>(match Q2 with|.inl G1=>some (true)|.inr G2=>some (false))
theorem ref19_param_C (d0:cb) (d1:Bs) (z:Zs):oK (iu.facts d0 z) [] 206 [iu.ag d0 z,S d1] (vS n d0 d1) (λr y=>⟨.bool r,[],[]⟩):=
 fn 23 Tryz.func206 (lp [bx 5] {} (λK1 _ _=>{L:=[(5,.int .i64 K1)],ks:=[1,2]}) (λx z b=>match x with|.inl G1=>{e:=.ret,L:=[(4,.bool true)]}|.inr G2=>{e:=.exit 0}) (λK1=>br [K 5 2] (ob (λ_ X2=>br [K 5 2,I 0 6 iw X2,K 6 0] (rt []) (nd (λO1=>rt [wr 13 O1])))) (rt [])) (kS (kA λ_=>rt []) (kA λ_=>rt [])))
def lx (n:Nat) (az:Cu) (d1:ac) (K1:Int×Int):Option (Lp (Int×Int) (Sum Unit Int)):=bif decide (K1.1<(az.length:Int)) then(aq az K1.1).bind λX1=>bif Vc.andL [(X1.out==d1.out),decide (X1.scope=d1.scope),decide (X1.name=d1.name)] then some (.br (.inl ())) else ar (inR .i64 (K1.1+1))<|some (.nx (K1.1+1,K1.2)) else some (.br (.inr K1.2))
def ly (n:Nat) (aH:Cu) (d1:ac) (K2:Int):Option (Lp Int (Sum Unit Unit)):=bif decide (K2<(aH.length:Int)) then(aq aH K2).bind λX3=>bif Vc.andL [(X3.out==d1.out),decide (X3.scope=d1.scope),decide (X3.name=d1.name)] then some (.br (.inl ())) else ar (inR .i64 (K2+1))<|some (.nx (K2+1)) else some (.br (.inr ()))
def eJ (ax:Ct) (ay:Cs) (aC:List Cp) (aD:CE) (aB:CE) (az:Cu) (aH:Cu) (aI:Int) (d1:ac):Option (Bool×Cu×Int):=(av (lx n az d1) n ((0:Int),aI)).bind λQ2=>(match Q2 with|.inl G1=>some ((false),az,(200:Int))|.inr G2=>(av (ly n aH d1) n (0:Int)).bind λQ3=>(match Q3 with|.inl G3=>some ((false),az,G2)|.inr G4=>(ar ((az.length+1)*32≤140737488355328)<|some (az++[d1]):Option Cu).bind λG5=>some ((true),G5,G2)))
theorem mY (ax:Ct) (ay:Cs) (aC:List Cp) (aD:CE) (aB:CE) (az:Cu) (aH:Cu) (aI:Int) (d1:ac) (z:Zs):oK ([sX 7 aT (z 0) ax,sX 11 aS (z 1) ay,sX 1 (eL 8 aj) (z 2) aC,sX 1 Dat.bool (z 3) aD,qX 1 Dat.bool (z 8) aB,qX 3 ak (z 9) az,qX 3 ak (z 10) aH]) [.obj (z 7).b (.cells #[wX (z 0) ax,wX (z 1) ay,wX (z 2) aC,wX (z 3) aD,wX (z 8) aB,wX (z 9) az,wX (z 10) aH,.int .i64 aI] 212 (0,0)),rX 4 1 (z 8) aB,rX 316 3 (z 9) az,rX 316 3 (z 10) aH] 207 [.pointer (some ⟨(z 7).b,0,none⟩),bD.ag d1 (sh 7 z)] (eJ n ax ay aC aD aB az aH aI d1) (λr y=>⟨.bool r.1,[.obj (z 7).b (.cells #[wX (z 0) ax,wX (z 1) ay,wX (z 2) aC,wX (z 3) aD,wX (z 8) aB,wX (y 3) r.2.1,wX (z 10) aH,.int .i64 r.2.2] 212 (0,0)),rX 4 1 (z 8) aB,rX 316 3 (y 3) r.2.1,rX 316 3 (z 10) aH],[qX 3 ak (y 3) r.2.1]⟩):=
 fn 56 Tryz.func207 (lp [bx 7] {} (λK1 _ _=>{L:=[(5,.int .i64 K1.1)],ks:=[0,3],m:=[(0,7,.int .i64 K1.2)]}) (λx z b=>match x with|.inl G1=>{e:=.ret,L:=[(4,.bool false)],m:=[(0,7,.int .i64 200)]}|.inr G2=>{e:=.exit 0,ks:=[0,3],m:=[(0,7,.int .i64 G2)]}) (λK1=>br [O 0] (ob (λX1 X2=>br [Re 2 5 8 bD X2,O 0,X 9,Rd 2 8 0,K 7 0,se [((4,0),.bo X1.out d1.out),((3,1),.nu .i64 X1.scope d1.scope),((9,2),.tx X1.name d1.name)]] (rt [S1 0]) (nd (λO1=>rt [wr 15 O1])))) (rt [])) (kS (kA λ_=>rt [] {is:=[5],js:=[0,1,2,3]}) (kA λ_=>lp [] {} (λK2 _ _=>{L:=[(6,.int .i64 K2)],ks:=[0,3]}) (λx z b=>match x with|.inl G3=>{e:=.ret,L:=[(4,.bool false)]}|.inr G4=>{e:=.exit 2,ks:=[0,3]}) (λK2=>br [O 0] (ob (λX3 X4=>br [Re 3 6 10 bD X4,O 0,X 11,Rd 3 10 0,K 7 0,se [((4,0),.bo X3.out d1.out),((3,1),.nu .i64 X3.scope d1.scope),((9,2),.tx X3.name d1.name)]] (rt []) (nd (λO2=>rt [wr 36 O2])))) (rt [])) (kS (kA λ_=>rt [] {is:=[5],js:=[0,1,2,3]}) (kA λ_=>jn (.reg 12) [] (λG5 z _=>{E:=[(16,rX 316 3 (z 1) G5)],x:=[2],m:=[(0,5,(z 1).sl G5.length)],F:=[(15,qX 3 ak (z 1) G5)]}) (nd (λO3=>rt [ch [0,2] [],lo (O 0),K 7 0,th (ao 12) (lk 12 13 bD [(d1,[])]),ap (ys:=[d1]) 2 5 13 14 bD O3,S1 0] {is:=[14],js:=[2]})) (kA λ_=>rt [] {is:=[15],js:=[0,1,16,3]}))))))
abbrev iH (rec_ref19_walker_expr: (List cb)→(List cj)→(List (List aG))→(List Bool)→(List Bool)→(List ac)→(List ac)→Int→Int→bZ→Option (List Bool×List ac×List ac×Int)):Prop:=∀ (ax:List cb) (ay:List cj) (aC:List (List aG)) (aD:List Bool) (aB:List Bool) (az:List ac) (aH:List ac) (aI:Int) (d1:Int) (d2:bZ) (z:Zs),OkC Tryz.prog ([.sli 7 aT (z 0).A (z 0).c ax]++[.sli 11 aS (z 1).A (z 1).c ay]++[.sli 1 (eL 8 aj) (z 2).A (z 2).c aC]++[.sli 1 Dat.bool (z 3).A (z 3).c aD]++[.seq 1 Dat.bool aB (z 9).k]++[.seq 3 ak az (z 10).k]++[.seq 3 ak aH (z 11).k]++bg.facts d2 (sh 7 z)) [.obj (z 8).b (.cells #[(z 0).sl ax.length,(z 1).sl ay.length,(z 2).sl aC.length,(z 3).sl aD.length,(z 9).sl aB.length,(z 10).sl az.length,(z 11).sl aH.length,.int .i64 aI] 212 (0,0)),.row 4 1 ((z 9).sl aB.length) aB.length (z 9).k,.row 316 3 ((z 10).sl az.length) az.length (z 10).k,.row 316 3 ((z 11).sl aH.length) aH.length (z 11).k] 108 [.pointer (some ⟨(z 8).b,0,none⟩),.int .i64 d1,bg.ag d2 (sh 7 z)] (rec_ref19_walker_expr ax ay aC aD aB az aH aI d1 d2) (λr y=>⟨.tuple #[],[.obj (z 8).b (.cells #[(z 0).sl ax.length,(z 1).sl ay.length,(z 2).sl aC.length,(z 3).sl aD.length,(y 4).sl r.1.length,(y 5).sl r.2.1.length,(y 6).sl r.2.2.1.length,.int .i64 r.2.2.2] 212 (0,0)),.row 4 1 ((y 4).sl r.1.length) r.1.length (y 4).k,.row 316 3 ((y 5).sl r.2.1.length) r.2.1.length (y 5).k,.row 316 3 ((y 6).sl r.2.2.1.length) r.2.2.1.length (y 6).k],[.seq 1 Dat.bool r.1 (y 4).k,.seq 3 ak r.2.1 (y 5).k,.seq 3 ak r.2.2.1 (y 6).k]⟩)
def eK (n:Nat) (ax:Ct) (ay:Cs) (aC:List Cp) (aD:CE) (aB:CE) (az:Cu) (aH:Cu) (aI:Int):Option (Cu×Cu):=ar (inR .i64 ((az.length:Int)-1))<|((aq az ((az.length:Int)-1)).bind λX1=>ar ((aH.length+1)*32≤140737488355328)<|some (aH++[X1]):Option Cu).bind λG1=>ar (0≤((az.length:Int)-1)∧((az.length:Int)-1)≤(az.length:Int))<|some (az.take ((az.length:Int)-1).toNat,G1)
theorem na (ax:Ct) (ay:Cs) (aC:List Cp) (aD:CE) (aB:CE) (az:Cu) (aH:Cu) (aI:Int) (z:Zs):oK ([sX 7 aT (z 0) ax,sX 11 aS (z 1) ay,sX 1 (eL 8 aj) (z 2) aC,sX 1 Dat.bool (z 3) aD,qX 1 Dat.bool (z 8) aB,qX 3 ak (z 9) az,qX 3 ak (z 10) aH]) [.obj (z 7).b (.cells #[wX (z 0) ax,wX (z 1) ay,wX (z 2) aC,wX (z 3) aD,wX (z 8) aB,wX (z 9) az,wX (z 10) aH,.int .i64 aI] 212 (0,0)),rX 4 1 (z 8) aB,rX 316 3 (z 9) az,rX 316 3 (z 10) aH] 208 [.pointer (some ⟨(z 7).b,0,none⟩)] (eK n ax ay aC aD aB az aH aI) (λr y=>⟨.tuple #[],[.obj (z 7).b (.cells #[wX (z 0) ax,wX (z 1) ay,wX (z 2) aC,wX (z 3) aD,wX (z 8) aB,wX (y 4) r.1,wX (y 5) r.2,.int .i64 aI] 212 (0,0)),rX 4 1 (z 8) aB,rX 316 3 (y 4) r.1,rX 316 3 (y 5) r.2],[qX 3 ak (y 4) r.1,qX 3 ak (y 5) r.2]⟩):=
 fn 34 Tryz.func208 (nd (λO1=>jn (.reg 1) [O 0,wr 8 O1] (λG1 z _=>{ks:=[0,2],E:=[(13,rX 316 3 (z 1) G1)],x:=[3],m:=[(0,6,(z 1).sl G1.length)],F:=[(12,qX 3 ak (z 1) G1)]}) (ob (λX1 X2=>nd (λO2=>rt [Re 2 5 7 bD X2,ch [0,3] [],lo (O 0),lo (O 0),X 8,Rd 2 7 0,th (ao 9) (lk 9 10 bD [(X1,[])]),ap (ys:=[X1]) 3 6 10 11 bD O2,S1 0] {is:=[11],js:=[3]}))) (kA λ_=>nd (λO3=>rt [O 0,Tr 2 5 14 bD O3,S1 0] {is:=[14,12],js:=[0,1,2,13]}))))
def gn (ax:Ct) (ay:Cs) (aC:List Cp) (aD:CE) (aB:CE) (az:Cu) (aH:Cu) (aI:Int) (d1:Int) (d2:Bs):Option (CE×Int):=(kb n (⟨ax,ay⟩:ey) d1 d2).bind λX1=>(bif !X1.2 then some (true) else(aq aD X1.1).bind λX3=>some (!X3):Option Bool).bind λG1=>bif G1 then some (aB,(160:Int)) else(aq aB X1.1).bind λX5=>some (aB.set X1.1.toNat (true),aI)
theorem nY (ax:Ct) (ay:Cs) (aC:List Cp) (aD:CE) (aB:CE) (az:Cu) (aH:Cu) (aI:Int) (d1:Int) (d2:Bs) (z:Zs):oK ([sX 7 aT (z 0) ax,sX 11 aS (z 1) ay,sX 1 (eL 8 aj) (z 2) aC,sX 1 Dat.bool (z 3) aD,qX 1 Dat.bool (z 8) aB,qX 3 ak (z 9) az,qX 3 ak (z 10) aH]) [.obj (z 7).b (.cells #[wX (z 0) ax,wX (z 1) ay,wX (z 2) aC,wX (z 3) aD,wX (z 8) aB,wX (z 9) az,wX (z 10) aH,.int .i64 aI] 212 (0,0)),rX 4 1 (z 8) aB,rX 316 3 (z 9) az,rX 316 3 (z 10) aH] 209 [.pointer (some ⟨(z 7).b,0,none⟩),.int .i64 d1,S d2] (gn n ax ay aC aD aB az aH aI d1 d2) (λr y=>⟨.tuple #[],[.obj (z 7).b (.cells #[wX (z 0) ax,wX (z 1) ay,wX (z 2) aC,wX (z 3) aD,wX (y 2) r.1,wX (z 9) az,wX (z 10) aH,.int .i64 r.2] 212 (0,0)),rX 4 1 (y 2) r.1,rX 316 3 (z 9) az,rX 316 3 (z 10) aH],[qX 1 Dat.bool (y 2) r.1]⟩):=
 fn 39 Tryz.func209 (ob (λ_ X2=>jn (.reg 1) [O 0,C (yq n (⟨ax,ay⟩:ey) d1 d2) X2 [0,1] [] 7] (λG1 _ _=>{L:=[(29,.bool G1)],ks:=[0,6]}) (bs [] 20 (rt []) (ob (λ_ X4=>rt [O 0,I 3 7 tB X4,K 7 0]))) (kA λ_=>br [] (rt [S1 0] {is:=[4],js:=[0,1,2,3]}) (ob (λ_ X6=>rt [O 0,Re 1 4 8 tB X6,X 9,Sr1 1 4 9 10 tB X6 (true) [] [36] [(0,4)]] {is:=[10],js:=[0,1,2,3]})))))
def lz (rec_ref19_walker_expr:Ct→Cs→(List Cp)→CE→CE→Cu→Cu→Int→Int→bZ→Option (CE×Cu×Cu×Int)) (ax:Ct) (ay:Cs) (aC:List Cp) (aD:CE) (d1:Int) (d2:Bs) (X1:cb) (K1:Int×CE×Cu×Cu×Int):Option (Lp (Int×CE×Cu×Cu×Int) (Sum (CE×Cu×Cu×Int) (CE×Cu×Cu×Int))):=bif decide (K1.1<(X1.bG.length:Int)) then(aq X1.bG K1.1).bind λX5=>bif decide (X5.aE=d2) then(eJ n ax ay aC aD K1.2.1 K1.2.2.1 K1.2.2.2.1 K1.2.2.2.2 (⟨(false),d1,d2⟩:ac)).bind λX7=>bif X7.1 then(aq X1.bG K1.1).bind λX9=>(rec_ref19_walker_expr ax ay aC aD K1.2.1 X7.2.1 K1.2.2.2.1 X7.2.2 X1.gf X9.fE).bind λX11=>(eK n ax ay aC aD X11.1 X11.2.1 X11.2.2.1 X11.2.2.2).bind λX13=>some (.br (.inl (X11.1,X13.1,X13.2,X11.2.2.2))) else some (.br (.inl (K1.2.1,X7.2.1,K1.2.2.2.1,X7.2.2))) else ar (inR .i64 (K1.1+1))<|some (.nx (K1.1+1,K1.2.1,K1.2.2.1,K1.2.2.2.1,K1.2.2.2.2)) else some (.br (.inr (K1.2.1,K1.2.2.1,K1.2.2.2.1,K1.2.2.2.2)))
def ib (rec_ref19_walker_expr:Ct→Cs→(List Cp)→CE→CE→Cu→Cu→Int→Int→bZ→Option (CE×Cu×Cu×Int)) (ax:Ct) (ay:Cs) (aC:List Cp) (aD:CE) (aB:CE) (az:Cu) (aH:Cu) (aI:Int) (d1:Int) (d2:Bs):Option (CE×Cu×Cu×Int):=(aq ax d1).bind λX1=>(vS n X1 d2).bind λX3=>bif X3 then bif decide (d1=0) then some (aB,az,aH,aI) else(av (lz n rec_ref19_walker_expr ax ay aC aD d1 d2 X1) n ((0:Int),aB,az,aH,aI)).bind λQ2=>(match Q2 with|.inl G1=>some (G1.1,G1.2.1,G1.2.2.1,G1.2.2.2)|.inr G2=>some (G2.1,G2.2.1,G2.2.2.1,G2.2.2.2)) else(gn n ax ay aC aD aB az aH aI d1 d2).bind λX16=>some (X16.1,az,aH,X16.2)
set_option maxRecDepth 20000 in
theorem vU (n:Nat) (rec_ref19_walker_expr:Ct→Cs→(List Cp)→CE→CE→Cu→Cu→Int→Int→bZ→Option (CE×Cu×Cu×Int)) (hrec_ref19_walker_expr:iH rec_ref19_walker_expr) (ax:Ct) (ay:Cs) (aC:List Cp) (aD:CE) (aB:CE) (az:Cu) (aH:Cu) (aI:Int) (d1:Int) (d2:Bs) (z:Zs):oK ([sX 7 aT (z 0) ax,sX 11 aS (z 1) ay,sX 1 (eL 8 aj) (z 2) aC,sX 1 Dat.bool (z 3) aD,qX 1 Dat.bool (z 8) aB,qX 3 ak (z 9) az,qX 3 ak (z 10) aH]) [.obj (z 7).b (.cells #[wX (z 0) ax,wX (z 1) ay,wX (z 2) aC,wX (z 3) aD,wX (z 8) aB,wX (z 9) az,wX (z 10) aH,.int .i64 aI] 212 (0,0)),rX 4 1 (z 8) aB,rX 316 3 (z 9) az,rX 316 3 (z 10) aH] 163 [.pointer (some ⟨(z 7).b,0,none⟩),.int .i64 d1,S d2] (ib n rec_ref19_walker_expr ax ay aC aD aB az aH aI d1 d2) (λr y=>⟨.tuple #[],[.obj (z 7).b (.cells #[wX (z 0) ax,wX (z 1) ay,wX (z 2) aC,wX (z 3) aD,wX (y 4) r.1,wX (y 5) r.2.1,wX (y 6) r.2.2.1,.int .i64 r.2.2.2] 212 (0,0)),rX 4 1 (y 4) r.1,rX 316 3 (y 5) r.2.1,rX 316 3 (y 6) r.2.2.1],[qX 1 Dat.bool (y 4) r.1,qX 3 ak (y 5) r.2.1,qX 3 ak (y 6) r.2.2.1]⟩):=
 fn 57 Tryz.func163 (ob (λX1 X2=>ob (λ_ X4=>br [O 0,I 0 7 iu X2,K 7 0,al 13,Sn 13,O 13,C (ref19_param_C n X1 d2) X4 [8,9,10,11,12] [] 14] (br [] (rt [] {is:=[4,5,6],js:=[0,1,2,3]}) (lp [] {is:=[4,5,6],js:=[1,2,3]} (λK1 z _=>{L:=[(7,.int .i64 K1.1)],ks:=[0,1,2,6],E:=[(15,rX 4 1 (z 3) K1.2.1),(17,rX 316 3 (z 4) K1.2.2.1),(19,rX 316 3 (z 5) K1.2.2.2.1)],x:=[1,2,3],m:=[(0,4,(z 3).sl K1.2.1.length),(0,5,(z 4).sl K1.2.2.1.length),(0,6,(z 5).sl K1.2.2.2.1.length),(0,7,.int .i64 K1.2.2.2.2)],F:=[(14,qX 1 Dat.bool (z 3) K1.2.1),(16,qX 3 ak (z 4) K1.2.2.1),(18,qX 3 ak (z 5) K1.2.2.2.1)]}) (λx z b=>match x with|.inl G1=>{e:=.ret,E:=[(32,rX 4 1 (z 3) G1.1),(34,rX 316 3 (z 4) G1.2.1),(36,rX 316 3 (z 5) G1.2.2.1)],x:=[1,2,3],m:=[(0,4,(z 3).sl G1.1.length),(0,5,(z 4).sl G1.2.1.length),(0,6,(z 5).sl G1.2.2.1.length),(0,7,.int .i64 G1.2.2.2)],F:=[(31,qX 1 Dat.bool (z 3) G1.1),(33,qX 3 ak (z 4) G1.2.1),(35,qX 3 ak (z 5) G1.2.2.1)]}|.inr G2=>{e:=.exit 0,E:=[(32,rX 4 1 (z 3) G2.1),(34,rX 316 3 (z 4) G2.2.1),(36,rX 316 3 (z 5) G2.2.2.1)],x:=[1,2,3],m:=[(0,4,(z 3).sl G2.1.length),(0,5,(z 4).sl G2.2.1.length),(0,6,(z 5).sl G2.2.2.1.length),(0,7,.int .i64 G2.2.2.2)],F:=[(31,qX 1 Dat.bool (z 3) G2.1),(33,qX 3 ak (z 4) G2.2.1),(35,qX 3 ak (z 5) G2.2.2.1)]}) (λK1=>br [O 13] (ob (λ_ X6=>br [O 13,I 12 20 qu X6,K 20 0] (ob (λX7 X8=>br [C (mY n ax ay aC aD K1.2.1 K1.2.2.1 K1.2.2.2.1 K1.2.2.2.2 (⟨(false),d1,d2⟩:ac)) X8 [0,1,2,3,14,16,18] [0,15,17,19] 22] (ob (λX9 X10=>ob (λX11 X12=>ob (λ_ X14=>rt [Ie 12 23 qu X10,ch [0,15,17,19] [],O 13,O 13,X 24,K 23 1,C (hrec_ref19_walker_expr ax ay aC aD K1.2.1 X7.2.1 K1.2.2.2.1 X7.2.2 X1.gf X9.fE) X12 [0,1,2,3,14,22,18,25] [0,15,17,19] 26,C (na n ax ay aC aD X11.1 X11.2.1 X11.2.2.1 X11.2.2.2) X14 [0,1,2,3,26,27,28] [0,15,17,19] 29] {is:=[26,29,30],js:=[15,17,19]})))) (rt [] {is:=[14,22,18],js:=[15,17,19]}))) (nd (λO1=>rt [wr 27 O1] {is:=[14,16,18],js:=[15,17,19]})))) (rt [] {is:=[14,16,18],js:=[15,17,19]})) (kS (kA λ_=>rt [] {is:=[31,33,35],js:=[0,32,34,36]}) (kA λ_=>rt [] {is:=[31,33,35],js:=[0,32,34,36]})))) (ob (λ_ X17=>rt [C (nY n ax ay aC aD aB az aH aI d1 d2) X17 [0,1,2,3,4,5,6] [0,1,2,3] 14] {is:=[14,5,6],js:=[0,1,2,3]})))))
def mW (rec_ref19_walker_expr:Ct→Cs→(List Cp)→CE→CE→Cu→Cu→Int→Int→bZ→Option (CE×Cu×Cu×Int)) (ax:Ct) (ay:Cs) (aC:List Cp) (aD:CE) (d3:Bs) (X1:Int×Bool) (X5:cb) (K1:Int×CE×Cu×Cu×Int):Option (Lp (Int×CE×Cu×Cu×Int) (Sum (CE×Cu×Cu×Int) (CE×Cu×Cu×Int))):=bif decide (K1.1<(X5.fT.bM.length:Int)) then(aq X5.fT.bM K1.1).bind λX7=>ar (0≤(8:Int)∧(8:Int)≤d3.length)<|bif !(decide (X7.aE=(d3.drop (8:Int).toNat))) then ar (inR .i64 (K1.1+1))<|some (.nx (K1.1+1,K1.2.1,K1.2.2.1,K1.2.2.2.1,K1.2.2.2.2)) else(gW n aC X1.1 X7.ef).bind λX9=>bif !X9 then some (.br (.inl (K1.2.1,K1.2.2.1,K1.2.2.2.1,(160:Int)))) else(eJ n ax ay aC aD K1.2.1 K1.2.2.1 K1.2.2.2.1 K1.2.2.2.2 (⟨(true),X1.1,X7.aE⟩:ac)).bind λX11=>bif X11.1 then(rec_ref19_walker_expr ax ay aC aD K1.2.1 X11.2.1 K1.2.2.2.1 X11.2.2 X1.1 X7.fE).bind λX13=>(eK n ax ay aC aD X13.1 X13.2.1 X13.2.2.1 X13.2.2.2).bind λX15=>some (.br (.inl (X13.1,X15.1,X15.2,X13.2.2.2))) else some (.br (.inl (K1.2.1,X11.2.1,K1.2.2.2.1,X11.2.2))) else some (.br (.inr (K1.2.1,K1.2.2.1,K1.2.2.2.1,K1.2.2.2.2)))
def iG (rec_ref19_walker_expr:Ct→Cs→(List Cp)→CE→CE→Cu→Cu→Int→Int→bZ→Option (CE×Cu×Cu×Int)) (ax:Ct) (ay:Cs) (aC:List Cp) (aD:CE) (aB:CE) (az:Cu) (aH:Cu) (aI:Int) (d1:Int) (d2:Bs) (d3:Bs):Option (CE×Cu×Cu×Int):=(iZ n (⟨ax,ay⟩:ey) d1 d2).bind λX1=>bif !X1.2 then(gn n ax ay aC aD aB az aH aI d1 d2).bind λX3=>some (X3.1,az,aH,X3.2) else(aq ax X1.1).bind λX5=>(bif decide ((d3.length:Int)<9) then some (true) else ar (0≤(8:Int)∧(8:Int)≤d3.length)<|some (!(decide ((d3.take (8:Int).toNat)=[79,117,116,112,117,116,115,46]))):Option Bool).bind λG1=>bif G1 then some (aB,az,aH,(160:Int)) else(av (mW n rec_ref19_walker_expr ax ay aC aD d3 X1 X5) n ((0:Int),aB,az,aH,aI)).bind λQ2=>(match Q2 with|.inl G2=>some (G2.1,G2.2.1,G2.2.2.1,G2.2.2.2)|.inr G3=>some (G3.1,G3.2.1,G3.2.2.1,(160:Int)))
set_option maxRecDepth 20000 in
theorem wL (n:Nat) (rec_ref19_walker_expr:Ct→Cs→(List Cp)→CE→CE→Cu→Cu→Int→Int→bZ→Option (CE×Cu×Cu×Int)) (hrec_ref19_walker_expr:iH rec_ref19_walker_expr) (ax:Ct) (ay:Cs) (aC:List Cp) (aD:CE) (aB:CE) (az:Cu) (aH:Cu) (aI:Int) (d1:Int) (d2:Bs) (d3:Bs) (z:Zs):oK ([sX 7 aT (z 0) ax,sX 11 aS (z 1) ay,sX 1 (eL 8 aj) (z 2) aC,sX 1 Dat.bool (z 3) aD,qX 1 Dat.bool (z 8) aB,qX 3 ak (z 9) az,qX 3 ak (z 10) aH]) [.obj (z 7).b (.cells #[wX (z 0) ax,wX (z 1) ay,wX (z 2) aC,wX (z 3) aD,wX (z 8) aB,wX (z 9) az,wX (z 10) aH,.int .i64 aI] 212 (0,0)),rX 4 1 (z 8) aB,rX 316 3 (z 9) az,rX 316 3 (z 10) aH] 164 [.pointer (some ⟨(z 7).b,0,none⟩),.int .i64 d1,S d2,S d3] (iG n rec_ref19_walker_expr ax ay aC aD aB az aH aI d1 d2 d3) (λr y=>⟨.tuple #[],[.obj (z 7).b (.cells #[wX (z 0) ax,wX (z 1) ay,wX (z 2) aC,wX (z 3) aD,wX (y 4) r.1,wX (y 5) r.2.1,wX (y 6) r.2.2.1,.int .i64 r.2.2.2] 212 (0,0)),rX 4 1 (y 4) r.1,rX 316 3 (y 5) r.2.1,rX 316 3 (y 6) r.2.2.1],[qX 1 Dat.bool (y 4) r.1,qX 3 ak (y 5) r.2.1,qX 3 ak (y 6) r.2.2.1]⟩):=
 fn 95 Tryz.func164 (ob (λX1 X2=>br [O 0,C (xf n (⟨ax,ay⟩:ey) d1 d2) X2 [0,1] [] 7] (ob (λ_ X4=>rt [C (nY n ax ay aC aD aB az aH aI d1 d2) X4 [0,1,2,3,4,5,6] [0,1,2,3] 7] {is:=[7,5,6],js:=[0,1,2,3]})) (ob (λ_ X6=>jn (.reg 4) [O 0,I 0 7 iu X6,K 7 0,al 13,Sn 13] (λG1 _ _=>{L:=[(44,.bool G1)],ks:=[0,3,8,10]}) (bs [] 40 (rt []) (nd (λO1=>rt [tG O1]))) (kA λ_=>br [] (rt [S1 0] {is:=[4,5,6],js:=[0,1,2,3]}) (lp [] {is:=[4,5,6],js:=[1,2,3]} (λK1 z _=>{L:=[(11,.int .i64 K1.1)],ks:=[0,3,8,10],E:=[(15,rX 4 1 (z 3) K1.2.1),(17,rX 316 3 (z 4) K1.2.2.1),(19,rX 316 3 (z 5) K1.2.2.2.1)],x:=[1,2,3],m:=[(0,4,(z 3).sl K1.2.1.length),(0,5,(z 4).sl K1.2.2.1.length),(0,6,(z 5).sl K1.2.2.2.1.length),(0,7,.int .i64 K1.2.2.2.2)],F:=[(14,qX 1 Dat.bool (z 3) K1.2.1),(16,qX 3 ak (z 4) K1.2.2.1),(18,qX 3 ak (z 5) K1.2.2.2.1)]}) (λx z b=>match x with|.inl G2=>{e:=.ret,E:=[(30,rX 4 1 (z 3) G2.1),(32,rX 316 3 (z 4) G2.2.1),(34,rX 316 3 (z 5) G2.2.2.1)],x:=[1,2,3],m:=[(0,4,(z 3).sl G2.1.length),(0,5,(z 4).sl G2.2.1.length),(0,6,(z 5).sl G2.2.2.1.length),(0,7,.int .i64 G2.2.2.2)],F:=[(29,qX 1 Dat.bool (z 3) G2.1),(31,qX 3 ak (z 4) G2.2.1),(33,qX 3 ak (z 5) G2.2.2.1)]}|.inr G3=>{e:=.exit 0,ks:=[0],E:=[(30,rX 4 1 (z 3) G3.1),(32,rX 316 3 (z 4) G3.2.1),(34,rX 316 3 (z 5) G3.2.2.1)],x:=[1,2,3],m:=[(0,4,(z 3).sl G3.1.length),(0,5,(z 4).sl G3.2.1.length),(0,6,(z 5).sl G3.2.2.1.length),(0,7,.int .i64 G3.2.2.2)],F:=[(29,qX 1 Dat.bool (z 3) G3.1),(31,qX 3 ak (z 4) G3.2.1),(33,qX 3 ak (z 5) G3.2.2.1)]}) (λK1=>br [O 13] (ob (λX7 X8=>nd (λO2=>br [O 13,I 11 20 ir X8,K 20 0,al 22,Sn 22,O 22,tF O2] (nd (λO3=>rt [wr 55 O3] {is:=[14,16,18],js:=[15,17,19]})) (ob (λ_ X10=>br [O 0,O 22,C (jG n aC X1.1 X7.ef) X10 [2] [] 23] (rt [S1 0] {is:=[14,16,18],js:=[15,17,19]}) (ob (λX11 X12=>br [O 22,C (mY n ax ay aC aD K1.2.1 K1.2.2.1 K1.2.2.2.1 K1.2.2.2.2 (⟨(true),X1.1,X7.aE⟩:ac)) X12 [0,1,2,3,14,16,18] [0,15,17,19] 23] (ob (λX13 X14=>ob (λ_ X16=>rt [O 22,C (hrec_ref19_walker_expr ax ay aC aD K1.2.1 X11.2.1 K1.2.2.2.1 X11.2.2 X1.1 X7.fE) X14 [0,1,2,3,14,23,18,21] [0,15,17,19] 24,C (na n ax ay aC aD X13.1 X13.2.1 X13.2.2.1 X13.2.2.2) X16 [0,1,2,3,24,25,26] [0,15,17,19] 27] {is:=[24,27,28],js:=[15,17,19]}))) (rt [] {is:=[14,23,18],js:=[15,17,19]})))))))) (rt [] {is:=[14,16,18],js:=[15,17,19]})) (kS (kA λ_=>rt [] {is:=[29,31,33],js:=[0,30,32,34]}) (kA λ_=>rt [S1 0] {is:=[29,31,33],js:=[0,30,32,34]}))))))))
def mX (n:Nat) (aC:List Cp) (d1:Int) (d2:Bs) (K1:Int):Option (Lp Int (Sum Unit Unit)):=(aq aC d1).bind λX1=>bif decide (K1<(X1.length:Int)) then(aq aC d1).bind λX3=>(aq X3 K1).bind λX5=>bif decide (X5.aE=d2) then some (.br (.inl ())) else ar (inR .i64 (K1+1))<|some (.nx (K1+1)) else some (.br (.inr ()))
def kN (ax:Ct) (ay:Cs) (aC:List Cp) (aD:CE) (aB:CE) (az:Cu) (aH:Cu) (aI:Int) (d1:Int) (d2:Bs):Option Bool:=(av (mX n aC d1 d2) n (0:Int)).bind λQ1=>(match Q1 with|.inl G1=>some (true)|.inr G2=>some (false))
theorem wM (ax:Ct) (ay:Cs) (aC:List Cp) (aD:CE) (aB:CE) (az:Cu) (aH:Cu) (aI:Int) (d1:Int) (d2:Bs) (z:Zs):oK ([sX 7 aT (z 0) ax,sX 11 aS (z 1) ay,sX 1 (eL 8 aj) (z 2) aC,sX 1 Dat.bool (z 3) aD,qX 1 Dat.bool (z 8) aB,qX 3 ak (z 9) az,qX 3 ak (z 10) aH]) [.obj (z 7).b (.cells #[wX (z 0) ax,wX (z 1) ay,wX (z 2) aC,wX (z 3) aD,wX (z 8) aB,wX (z 9) az,wX (z 10) aH,.int .i64 aI] 212 (0,0)),rX 4 1 (z 8) aB,rX 316 3 (z 9) az,rX 316 3 (z 10) aH] 165 [.pointer (some ⟨(z 7).b,0,none⟩),.int .i64 d1,S d2] (kN n ax ay aC aD aB az aH aI d1 d2) (λr y=>⟨.bool r,[.obj (z 7).b (.cells #[wX (z 0) ax,wX (z 1) ay,wX (z 2) aC,wX (z 3) aD,wX (z 8) aB,wX (z 9) az,wX (z 10) aH,.int .i64 aI] 212 (0,0)),rX 4 1 (z 8) aB,rX 316 3 (z 9) az,rX 316 3 (z 10) aH],[]⟩):=
 fn 33 Tryz.func165 (lp [] {} (λK1 _ _=>{L:=[(7,.int .i64 K1)],ks:=[0,1,2]}) (λx z b=>match x with|.inl G1=>{e:=.ret,L:=[(6,.bool true)]}|.inr G2=>{e:=.exit 0}) (λK1=>ob (λ_ X2=>br [O 0,I 2 7 (tL 8 aj) X2,K 7 0] (ob (λ_ X4=>ob (λ_ X6=>br [O 0,I 2 9 (tL 8 aj) X4,K 9 0,I 10 11 bc X6,K 11 0] (rt []) (nd (λO1=>rt [wr 19 O1]))))) (rt []))) (kS (kA λ_=>rt [] {js:=[0,1,2,3]}) (kA λ_=>rt [] {js:=[0,1,2,3]})))
def mZ (n:Nat) (rec_ref19_walker_expr:Ct→Cs→(List Cp)→CE→CE→Cu→Cu→Int→Int→bZ→Option (CE×Cu×Cu×Int)) (ax:Ct) (ay:Cs) (aC:List Cp) (aD:CE) (d1:Int) (d2:bZ) (K1:Int×CE×Cu×Cu×Int):Option (Lp (Int×CE×Cu×Cu×Int) (CE×Cu×Cu×Int)):=bif decide (K1.1<(d2.fL.length:Int)) then(aq d2.fL K1.1).bind λX17=>(rec_ref19_walker_expr ax ay aC aD K1.2.1 K1.2.2.1 K1.2.2.2.1 K1.2.2.2.2 d1 X17).bind λX19=>ar (inR .i64 (K1.1+1))<|some (.nx (K1.1+1,X19.1,X19.2.1,X19.2.2.1,X19.2.2.2)) else some (.br (K1.2.1,K1.2.2.1,K1.2.2.2.1,K1.2.2.2.2))
def jA (rec_ref19_walker_expr:Ct→Cs→(List Cp)→CE→CE→Cu→Cu→Int→Int→bZ→Option (CE×Cu×Cu×Int)) (ax:Ct) (ay:Cs) (aC:List Cp) (aD:CE) (aB:CE) (az:Cu) (aH:Cu) (aI:Int) (d1:Int) (d2:bZ):Option (CE×Cu×Cu×Int):=bif !(decide (aI=0)) then some (aB,az,aH,aI) else bif decide (d2.aA=3) then(ib n rec_ref19_walker_expr ax ay aC aD aB az aH aI d1 d2.aE).bind λX1=>some (X1.1,X1.2.1,X1.2.2.1,X1.2.2.2) else bif decide (d2.aA=4) then(iG n rec_ref19_walker_expr ax ay aC aD aB az aH aI d1 d2.aE d2.dQ).bind λX3=>some (X3.1,X3.2.1,X3.2.2.1,X3.2.2.2) else bif decide (d2.aA=6) then(bif !(decide ((d2.fL.length:Int)=2)) then some (true) else(kN n ax ay aC aD aB az aH aI d1 d2.aE).bind λX5=>some (!X5):Option Bool).bind λG1=>bif G1 then some (aB,az,aH,(160:Int)) else(gW n aC d1 d2.aE).bind λX7=>(bif X7 then(aq d2.fL (0:Int)).bind λX9=>(rec_ref19_walker_expr ax ay aC aD aB az aH aI d1 X9).bind λX11=>some (X11.1,X11.2.1,X11.2.2.1,X11.2.2.2) else(aq d2.fL (1:Int)).bind λX13=>(rec_ref19_walker_expr ax ay aC aD aB az aH aI d1 X13).bind λX15=>some (X15.1,X15.2.1,X15.2.2.1,X15.2.2.2):Option (CE×Cu×Cu×Int)).bind λG2=>some (G2.1,G2.2.1,G2.2.2.1,G2.2.2.2) else(av (mZ n rec_ref19_walker_expr ax ay aC aD d1 d2) n ((0:Int),aB,az,aH,aI)).bind λG3=>some (G3.1,G3.2.1,G3.2.2.1,G3.2.2.2)
set_option maxRecDepth 20000 in
theorem uS (n:Nat) (rec_ref19_walker_expr:Ct→Cs→(List Cp)→CE→CE→Cu→Cu→Int→Int→bZ→Option (CE×Cu×Cu×Int)) (hrec_ref19_walker_expr:iH rec_ref19_walker_expr) (ax:Ct) (ay:Cs) (aC:List Cp) (aD:CE) (aB:CE) (az:Cu) (aH:Cu) (aI:Int) (d1:Int) (d2:bZ) (z:Zs):oK ([sX 7 aT (z 0) ax]++[sX 11 aS (z 1) ay]++[sX 1 (eL 8 aj) (z 2) aC]++[sX 1 Dat.bool (z 3) aD]++[qX 1 Dat.bool (z 9) aB]++[qX 3 ak (z 10) az]++[qX 3 ak (z 11) aH]++bg.facts d2 (sh 7 z)) [.obj (z 8).b (.cells #[wX (z 0) ax,wX (z 1) ay,wX (z 2) aC,wX (z 3) aD,wX (z 9) aB,wX (z 10) az,wX (z 11) aH,.int .i64 aI] 212 (0,0)),rX 4 1 (z 9) aB,rX 316 3 (z 10) az,rX 316 3 (z 11) aH] 108 [.pointer (some ⟨(z 8).b,0,none⟩),.int .i64 d1,bg.ag d2 (sh 7 z)] (jA n rec_ref19_walker_expr ax ay aC aD aB az aH aI d1 d2) (λr y=>⟨.tuple #[],[.obj (z 8).b (.cells #[wX (z 0) ax,wX (z 1) ay,wX (z 2) aC,wX (z 3) aD,wX (y 4) r.1,wX (y 5) r.2.1,wX (y 6) r.2.2.1,.int .i64 r.2.2.2] 212 (0,0)),rX 4 1 (y 4) r.1,rX 316 3 (y 5) r.2.1,rX 316 3 (y 6) r.2.2.1],[qX 1 Dat.bool (y 4) r.1,qX 3 ak (y 5) r.2.1,qX 3 ak (y 6) r.2.2.1]⟩):=
 fn 84 Tryz.func108 (br [bx 8,O 0] (rt [] {is:=[4,5,6],js:=[0,1,2,3]}) (br [K 8 0] (ob (λ_ X2=>rt [K 8 3,C (vU n rec_ref19_walker_expr hrec_ref19_walker_expr ax ay aC aD aB az aH aI d1 d2.aE) X2 [0,1,2,3,4,5,6] [0,1,2,3] 9] {is:=[9,10,11],js:=[0,1,2,3]})) (br [] (ob (λ_ X4=>rt [K 8 3,K 8 4,C (wL n rec_ref19_walker_expr hrec_ref19_walker_expr ax ay aC aD aB az aH aI d1 d2.aE d2.dQ) X4 [0,1,2,3,4,5,6] [0,1,2,3] 9] {is:=[9,10,11],js:=[0,1,2,3]})) (br [] (jn (.reg 8) [] (λG1 _ _=>{L:=[(43,.bool G1)],ks:=[0,1,5]}) (bs [K 8 5] 36 (rt []) (ob (λ_ X6=>rt [K 8 3,C (wM n ax ay aC aD aB az aH aI d1 d2.aE) X6 [0,1,2,3,4,5,6] [0,1,2,3] 9]))) (kA λ_=>br [] (rt [S1 0] {is:=[4,5,6],js:=[0,1,2,3]}) (ob (λ_ X8=>jn .no [O 0,K 8 3,C (jG n aC d1 d2.aE) X8 [2] [] 9] (λG2 z _=>{E:=[(15,rX 4 1 (z 3) G2.1),(17,rX 316 3 (z 4) G2.2.1),(19,rX 316 3 (z 5) G2.2.2.1)],x:=[1,2,3],m:=[(0,4,(z 3).sl G2.1.length),(0,5,(z 4).sl G2.2.1.length),(0,6,(z 5).sl G2.2.2.1.length),(0,7,.int .i64 G2.2.2.2)],F:=[(14,qX 1 Dat.bool (z 3) G2.1),(16,qX 3 ak (z 4) G2.2.1),(18,qX 3 ak (z 5) G2.2.2.1)]}) (br [] (ob (λX9 X10=>ob (λ_ X12=>rt [K 8 5,I 7 9 bg X10,K 9 0,C (hrec_ref19_walker_expr ax ay aC aD aB az aH aI d1 X9) X12 [0,1,2,3,4,5,6,10] [0,1,2,3] 11] {is:=[11,12,13],js:=[1,2,3]}))) (ob (λX13 X14=>ob (λ_ X16=>rt [K 8 5,I 7 9 bg X14,K 9 0,C (hrec_ref19_walker_expr ax ay aC aD aB az aH aI d1 X13) X16 [0,1,2,3,4,5,6,10] [0,1,2,3] 11] {is:=[11,12,13],js:=[1,2,3]})))) (kA λ_=>rt [] {is:=[14,16,18],js:=[0,15,17,19]}))))) (lp [] {is:=[4,5,6],js:=[1,2,3]} (λK1 z _=>{L:=[(6,.int .i64 K1.1)],ks:=[0,1,5],E:=[(10,rX 4 1 (z 3) K1.2.1),(12,rX 316 3 (z 4) K1.2.2.1),(14,rX 316 3 (z 5) K1.2.2.2.1)],x:=[1,2,3],m:=[(0,4,(z 3).sl K1.2.1.length),(0,5,(z 4).sl K1.2.2.1.length),(0,6,(z 5).sl K1.2.2.2.1.length),(0,7,.int .i64 K1.2.2.2.2)],F:=[(9,qX 1 Dat.bool (z 3) K1.2.1),(11,qX 3 ak (z 4) K1.2.2.1),(13,qX 3 ak (z 5) K1.2.2.2.1)]}) (λG3 z _=>{e:=.exit 1,E:=[(21,rX 4 1 (z 3) G3.1),(23,rX 316 3 (z 4) G3.2.1),(25,rX 316 3 (z 5) G3.2.2.1)],x:=[1,2,3],m:=[(0,4,(z 3).sl G3.1.length),(0,5,(z 4).sl G3.2.1.length),(0,6,(z 5).sl G3.2.2.1.length),(0,7,.int .i64 G3.2.2.2)],F:=[(20,qX 1 Dat.bool (z 3) G3.1),(22,qX 3 ak (z 4) G3.2.1),(24,qX 3 ak (z 5) G3.2.2.1)]}) (λK1=>br [K 8 5] (ob (λX17 X18=>ob (λ_ X20=>nd (λO1=>rt [K 8 5,I 7 15 bg X18,K 15 0,C (hrec_ref19_walker_expr ax ay aC aD K1.2.1 K1.2.2.1 K1.2.2.2.1 K1.2.2.2.2 d1 X17) X20 [0,1,2,3,9,11,13,16] [0,10,12,14] 17,wr 75 O1] {is:=[17,18,19],js:=[10,12,14]})))) (rt [] {is:=[9,11,13],js:=[10,12,14]})) (kA λ_=>rt [] {is:=[20,22,24],js:=[0,21,23,25]}))))))
def cX (n:Nat):Nat→Ct→Cs→(List Cp)→CE→CE→Cu→Cu→Int→Int→bZ→Option (CE×Cu×Cu×Int)|0=>λ_ _ _ _ _ _ _ _ _ _=>none|k+1=>jA n (cX n k)
def kO (ax:Ct) (ay:Cs) (aC:List Cp) (aD:CE) (aB:CE) (az:Cu) (aH:Cu) (aI:Int) (d1:Int) (d2:bZ):Option (CE×Cu×Cu×Int):=cX n n ax ay aC aD aB az aH aI d1 d2
theorem wN (ax:Ct) (ay:Cs) (aC:List Cp) (aD:CE) (aB:CE) (az:Cu) (aH:Cu) (aI:Int) (d1:Int) (d2:bZ) (z:Zs):oK ([sX 7 aT (z 0) ax]++[sX 11 aS (z 1) ay]++[sX 1 (eL 8 aj) (z 2) aC]++[sX 1 Dat.bool (z 3) aD]++[qX 1 Dat.bool (z 9) aB]++[qX 3 ak (z 10) az]++[qX 3 ak (z 11) aH]++bg.facts d2 (sh 7 z)) [.obj (z 8).b (.cells #[wX (z 0) ax,wX (z 1) ay,wX (z 2) aC,wX (z 3) aD,wX (z 9) aB,wX (z 10) az,wX (z 11) aH,.int .i64 aI] 212 (0,0)),rX 4 1 (z 9) aB,rX 316 3 (z 10) az,rX 316 3 (z 11) aH] 108 [.pointer (some ⟨(z 8).b,0,none⟩),.int .i64 d1,bg.ag d2 (sh 7 z)] (kO n ax ay aC aD aB az aH aI d1 d2) (λr y=>⟨.tuple #[],[.obj (z 8).b (.cells #[wX (z 0) ax,wX (z 1) ay,wX (z 2) aC,wX (z 3) aD,wX (y 4) r.1,wX (y 5) r.2.1,wX (y 6) r.2.2.1,.int .i64 r.2.2.2] 212 (0,0)),rX 4 1 (y 4) r.1,rX 316 3 (y 5) r.2.1,rX 316 3 (y 6) r.2.2.1],[qX 1 Dat.bool (y 4) r.1,qX 3 ak (y 5) r.2.1,qX 3 ak (y 6) r.2.2.1]⟩):=by
 have key: ∀ (k:Nat) (ax:Ct) (ay:Cs) (aC:List Cp) (aD:CE) (aB:CE) (az:Cu) (aH:Cu) (aI:Int) (d1:Int) (d2:bZ) (z:Zs),oK ([sX 7 aT (z 0) ax]++[sX 11 aS (z 1) ay]++[sX 1 (eL 8 aj) (z 2) aC]++[sX 1 Dat.bool (z 3) aD]++[qX 1 Dat.bool (z 9) aB]++[qX 3 ak (z 10) az]++[qX 3 ak (z 11) aH]++bg.facts d2 (sh 7 z)) [.obj (z 8).b (.cells #[wX (z 0) ax,wX (z 1) ay,wX (z 2) aC,wX (z 3) aD,wX (z 9) aB,wX (z 10) az,wX (z 11) aH,.int .i64 aI] 212 (0,0)),rX 4 1 (z 9) aB,rX 316 3 (z 10) az,rX 316 3 (z 11) aH] 108 [.pointer (some ⟨(z 8).b,0,none⟩),.int .i64 d1,bg.ag d2 (sh 7 z)] (cX n k ax ay aC aD aB az aH aI d1 d2) (λr y=>⟨.tuple #[],[.obj (z 8).b (.cells #[wX (z 0) ax,wX (z 1) ay,wX (z 2) aC,wX (z 3) aD,wX (y 4) r.1,wX (y 5) r.2.1,wX (y 6) r.2.2.1,.int .i64 r.2.2.2] 212 (0,0)),rX 4 1 (y 4) r.1,rX 316 3 (y 5) r.2.1,rX 316 3 (y 6) r.2.2.1],[qX 1 Dat.bool (y 4) r.1,qX 3 ak (y 5) r.2.1,qX 3 ak (y 6) r.2.2.1]⟩):=by
  intro k
  induction k with
  |zero=>intros;exact OkC.none
  |succ k ih=>exact uS n (cX n k) ih
 exact key n ax ay aC aD aB az aH aI d1 d2 z
def uG (n:Nat) (d0:CE) (K1:CD×Int):Option (Lp (CD×Int) CD):=bif decide (K1.2<(d0.length:Int)) then(aq d0 K1.2).bind λX1=>bif X1 then ar ((K1.1.length+1)*8≤140737488355328)<|ar (inR .i64 (K1.2+1))<|some (.nx (K1.1++[K1.2],K1.2+1)) else ar (inR .i64 (K1.2+1))<|some (.nx (K1.1,K1.2+1)) else some (.br K1.1)
def oH (d0:CE):Option CD:=(av (uG n d0) n (([]:CD),(0:Int))).bind λG1=>some (G1)
theorem Cf (d0:CE) (z:Zs):oK ([sX 1 Dat.bool (z 0) d0]) [] 109 [wX (z 0) d0] (oH n d0) (λr y=>⟨(y 1).sl r.length,[rX 3 1 (y 1) r],[qX 1 (Dat.int .i64) (y 1) r]⟩):=
 fn 20 Tryz.func109 (lp [nr 1 2 3 (tI .i64)] {is:=[2],js:=[1]} (λK1 z _=>{L:=[(3,(z 1).sl K1.1.length),(4,.int .i64 K1.2)],ks:=[0],E:=[(4,rX 3 1 (z 1) K1.1)],x:=[1],F:=[(3,qX 1 (Dat.int .i64) (z 1) K1.1)]}) (λG1 z _=>{e:=.exit 0,L:=[(3,(z 1).sl G1.length)],E:=[(10,rX 3 1 (z 1) G1)],x:=[1],F:=[(9,qX 1 (Dat.int .i64) (z 1) G1)]}) (λK1=>br [] (ob (λ_ X2=>br [I 0 5 tB X2,K 5 0] (nd (λO1=>nd (λO2=>rt [ao 6,lk 6 7 (tI .i64) [(K1.2,[])],ap (ys:=[K1.2]) 4 3 7 8 (tI .i64) O1,wr 10 O2] {is:=[8],js:=[4]}))) (nd (λO3=>rt [wr 10 O3] {is:=[3],js:=[4]})))) (rt [] {is:=[3],js:=[4]})) (kA λ_=>rt [] {is:=[9],js:=[10]}))
def yv (X8:Int×Ct×Cs×List Cp×CE×CE×Cu×Cu×Int) (X11:cj) (K2:Int×CE×Cu×Cu×Int):Option (Lp (Int×CE×Cu×Cu×Int) (CE×Cu×Cu×Int)):=bif decide (K2.1<(X11.fR.bk.length:Int)) then(aq X11.fR.bk K2.1).bind λX13=>(kO n X8.2.1 X8.2.2.1 X8.2.2.2.1 X8.2.2.2.2.1 K2.2.1 K2.2.2.1 K2.2.2.2.1 K2.2.2.2.2 X11.cK X13.fE).bind λX15=>ar (inR .i64 (K2.1+1))<|some (.nx (K2.1+1,X15.1,X15.2.1,X15.2.2.1,X15.2.2.2)) else some (.br (K2.2.1,K2.2.2.1,K2.2.2.2.1,K2.2.2.2.2))
def yx (n:Nat) (d0:ey) (X8:Int×Ct×Cs×List Cp×CE×CE×Cu×Cu×Int) (X11:cj) (K3:Int×CE) (K4:Int×CE):Option (Lp (Int×CE) CE):=bif decide (K4.1<(d0.aU.length:Int)) then(aq K4.2 K4.1).bind λX17=>bif X17 then(aq K4.2 K4.1).bind λX19=>ar (inR .i64 (K4.1+1))<|some (.nx (K4.1+1,K4.2.set K4.1.toNat (true))) else(aq d0.aU K4.1).bind λX21=>(aq X11.ju K3.1).bind λX23=>bif decide (X21.ci=X23) then(aq X8.2.2.2.2.1 K4.1).bind λX25=>(aq K4.2 K4.1).bind λX27=>ar (inR .i64 (K4.1+1))<|some (.nx (K4.1+1,K4.2.set K4.1.toNat (X25))) else(aq K4.2 K4.1).bind λX29=>ar (inR .i64 (K4.1+1))<|some (.nx (K4.1+1,K4.2.set K4.1.toNat (false))) else some (.br K4.2)
def yw (d0:ey) (X8:Int×Ct×Cs×List Cp×CE×CE×Cu×Cu×Int) (X11:cj) (K3:Int×CE):Option (Lp (Int×CE) CE):=bif decide (K3.1<(X11.ju.length:Int)) then(av (yx n d0 X8 X11 K3) n ((0:Int),K3.2)).bind λG2=>ar (inR .i64 (K3.1+1))<|some (.nx (K3.1+1,G2)) else some (.br K3.2)
def yu (d0:ey) (d1:Cp) (K1:List CD×Int):Option (Lp (List CD×Int) (Sum (Int×Int) (List CD))):=bif decide (K1.2<(d0.aU.length:Int)) then(mV n d0 d1).bind λX5=>(match X5 with|.inl X7=>none|.inr X8=>(aq X8.2.2.2.2.1 K1.2).bind λX9=>bif !X9 then ar ((K1.1.length+1)*24≤140737488355328)<|ar (inR .i64 (K1.2+1))<|some (.nx (K1.1++[([]:CD)],K1.2+1)) else(aq d0.aU K1.2).bind λX11=>(av (yv n X8 X11) n ((0:Int),X8.2.2.2.2.2.1,X8.2.2.2.2.2.2.1,X8.2.2.2.2.2.2.2.1,X8.2.2.2.2.2.2.2.2)).bind λG1=>bif !(decide (G1.2.2.2=0)) then some (.br (.inl (K1.2,G1.2.2.2))) else(av (yw n d0 X8 X11) n ((0:Int),G1.1)).bind λG3=>(oH n G3).bind λX32=>ar ((K1.1.length+1)*24≤140737488355328)<|ar (inR .i64 (K1.2+1))<|some (.nx (K1.1++[X32],K1.2+1))) else some (.br (.inr K1.1))
def wA (d0:ey) (d1:Cp):Option (List CD×Int×Int):=(mV n d0 d1).bind λX1=>(match X1 with|.inl X3=>bif !(decide (X3=0)) then some (([]:List CD),(0:Int),X3) else none|.inr X4=>bif !(decide (X4.1=0)) then some (([]:List CD),(0:Int),X4.1) else(av (yu n d0 d1) n (([]:List CD),(0:Int))).bind λQ3=>(match Q3 with|.inl G4=>some (([]:List CD),G4.1,G4.2)|.inr G5=>some (G5,(0:Int),(0:Int))))
set_option maxRecDepth 20000 in
theorem ref19_Run_C (n:Nat) (d0:ey) (d1:Cp) (z:Zs):oK (dt.facts d0 z++[sX 8 aj (z 2) d1]) [] 50 [dt.ag d0 z,wX (z 2) d1] (wA n d0 d1) (λr y=>⟨.tuple #[wX (y 1) r.1,.int .i64 r.2.1,.int .i64 r.2.2],[rX 47 1 (y 1) r.1],[.seq 1 (eL 1 (Dat.int .i64)) r.1 (y 1).k]⟩):=
 fn 143 Tryz.func50 (oS (λ_ X2=>br [bx 3,K 3 0,C (rU n d0 d1) X2 [0,1,2] [] 4] (rt [nr 4 5 47 (tL 1 (Dat.int .i64))] {is:=[5],js:=[4]}) no) (λ_ X2=>br [bx 3,K 3 0,C (rU n d0 d1) X2 [0,1,2] [] 4] (rt [nr 11 12 47 (tL 1 (Dat.int .i64))] {is:=[12],js:=[11]}) (lp [nr 11 12 47 (tL 1 (Dat.int .i64))] {is:=[12],js:=[11]} (λK1 z _=>{L:=[(9,(z 1).sl K1.1.length),(10,.int .i64 K1.2)],ks:=[1,2],E:=[(14,rX 47 1 (z 1) K1.1)],x:=[11],F:=[(13,.seq 1 (eL 1 (Dat.int .i64)) K1.1 (z 1).k)]}) (λx z b=>match x with|.inl G4=>{e:=.ret,L:=[(5,.int .i64 G4.1),(6,.int .i64 G4.2),(4,.slice none 0 0)],x:=[11]}|.inr G5=>{e:=.exit 0,L:=[(9,(z 1).sl G5.length)],E:=[(79,rX 47 1 (z 1) G5)],x:=[11],F:=[(78,.seq 1 (eL 1 (Dat.int .i64)) G5 (z 1).k)]}) (λK1=>br [K 3 1] (oS (λ_ _=>no) (λX8 X6=>ob (λ_ X10=>br [K 3 0,C (rU n d0 d1) X6 [0,1,2] [] 15,O 15,I 18 22 tB X10,K 22 0] (nd (λO1=>nd (λO2=>rt [ao 23,nf 24 1 (Dat.int .i64),lk 23 25 (tL 1 (Dat.int .i64)) [(([]:CD),[24])],ap (ys:=[([]:CD)]) 14 13 25 26 (tL 1 (Dat.int .i64)) O1,wr 32 O2] {is:=[26],js:=[14]}))) (ob (λX11 X12=>lp [K 3 1,I 1 23 iy X12,K 23 0,al 29,Sn 29] {is:=[19,20,21],js:=[16,17,18]} (λK2 z _=>{L:=[(14,.int .i64 K2.1)],ks:=[1,2,9,10,11,13],E:=[(31,rX 4 1 (z 3) K2.2.1),(33,rX 316 3 (z 4) K2.2.2.1),(35,rX 316 3 (z 5) K2.2.2.2.1)],x:=[16,17,18],m:=[(15,4,(z 3).sl K2.2.1.length),(15,5,(z 4).sl K2.2.2.1.length),(15,6,(z 5).sl K2.2.2.2.1.length),(15,7,.int .i64 K2.2.2.2.2)],F:=[(30,qX 1 Dat.bool (z 3) K2.2.1),(32,qX 3 ak (z 4) K2.2.2.1),(34,qX 3 ak (z 5) K2.2.2.2.1)]}) (λG1 z _=>{e:=.exit 2,ks:=[1,2,9,10,11,13],E:=[(43,rX 4 1 (z 3) G1.1),(45,rX 316 3 (z 4) G1.2.1),(47,rX 316 3 (z 5) G1.2.2.1)],x:=[16,17,18],m:=[(15,4,(z 3).sl G1.1.length),(15,5,(z 4).sl G1.2.1.length),(15,6,(z 5).sl G1.2.2.1.length),(15,7,.int .i64 G1.2.2.2)],F:=[(42,qX 1 Dat.bool (z 3) G1.1),(44,qX 3 ak (z 4) G1.2.1),(46,qX 3 ak (z 5) G1.2.2.1)]}) (λK2=>br [O 29] (ob (λX13 X14=>ob (λ_ X16=>nd (λO3=>rt [Ie 24 36 qu X14,ch [15,31,33,35] [],O 29,O 29,X 37,K 36 1,C (wN n X8.2.1 X8.2.2.1 X8.2.2.2.1 X8.2.2.2.2.1 K2.2.1 K2.2.2.1 K2.2.2.2.1 K2.2.2.2.2 X11.cK X13.fE) X16 [15,16,17,18,30,32,34,38] [15,31,33,35] 39,wr 62 O3] {is:=[39,40,41],js:=[31,33,35]})))) (rt [] {is:=[30,32,34],js:=[31,33,35]})) (kA λ_=>br [O 15] (rt [O 15]) (lp [] {is:=[42],js:=[43]} (λK3 z _=>{L:=[(15,.int .i64 K3.1)],ks:=[1,2,9,10,11,13],E:=[(49,rX 4 1 (z 1) K3.2)],x:=[43],m:=[(15,4,(z 1).sl K3.2.length)],F:=[(48,qX 1 Dat.bool (z 1) K3.2)]}) (λG3 z _=>{e:=.exit 4,ks:=[1,2,9,10,11],E:=[(71,rX 4 1 (z 1) G3)],x:=[43],m:=[(15,4,(z 1).sl G3.length)],F:=[(70,qX 1 Dat.bool (z 1) G3)]}) (λK3=>br [O 29] (lp [] {is:=[48],js:=[49]} (λK4 z _=>{L:=[(16,.int .i64 K4.1)],ks:=[1,2,9,10,11,13,15],E:=[(51,rX 4 1 (z 1) K4.2)],x:=[49],m:=[(15,4,(z 1).sl K4.2.length)],F:=[(50,qX 1 Dat.bool (z 1) K4.2)]}) (λG2 z _=>{e:=.exit 6,ks:=[1,2,9,10,11,13,15],E:=[(69,rX 4 1 (z 1) G2)],x:=[49],m:=[(15,4,(z 1).sl G2.length)],F:=[(68,qX 1 Dat.bool (z 1) G2)]}) (λK4=>br [K 3 1] (ob (λ_ X18=>bh (.reg 24) [Re 51 50 52 tB X18] (λB9=>ob (λ_ X20=>nd (λO4=>rt [Re 51 50 54 tB X20,ch [15,51] [(110,⟨cB B9⟩)],lo (O 15),lo (O 15),X 53,lo (Rd 51 52 0),cd true,cd true,cd true,cd true,cd true,cd true,cd true,cd true,cd true,X 55,Sr1 51 50 55 56 tB X20 (true) [] [101] [(15,4)],wr 97 O4] {is:=[56],js:=[51]}))) (λB9=>ob (λ_ X22=>ob (λ_ X24=>bh (.reg 24) [Ie 1 54 iy X22,Ie 28 61 tS X24] (λB10=>ob (λX25 X26=>ob (λ_ X28=>nd (λO5=>rt [Ie 18 63 tB X26,Re 51 50 65 tB X28,ch [15,51] [(110,⟨cB B9⟩),(123,⟨cB B10⟩)],lo (O 15),lo (O 15),X 53,lo (Rd 51 52 0),K 3 1,X 55,K 54 0,O 29,X 62,K 61 0,lo (O 15),X 64,K 63 0,X 66,Sr1 51 50 66 67 tB X28 (X25) [] [101] [(15,4)],wr 97 O5] {is:=[67],js:=[51]})))) (λB10=>ob (λ_ X30=>nd (λO6=>rt [Re 51 50 63 tB X30,ch [15,51] [(110,⟨cB B9⟩),(123,⟨cB B10⟩)],lo (O 15),lo (O 15),X 53,lo (Rd 51 52 0),K 3 1,X 55,K 54 0,O 29,X 62,K 61 0,cd true,cd true,cd true,X 64,Sr1 51 50 64 65 tB X30 (false) [] [101] [(15,4)],wr 97 O6] {is:=[65],js:=[51]})))))))) (rt [] {is:=[50],js:=[51]})) (kA λ_=>nd (λO7=>rt [wr 90 O7] {is:=[68],js:=[69]}))) (rt [] {is:=[48],js:=[49]})) (kA λG3=>ob (λX32 X33=>nd (λO8=>nd (λO9=>rt [O 15,ri 71 70 72,C (Cf n G3) X33 [72] [] 73,ao 74,ri 73 73 75,lk 74 76 (tL 1 (Dat.int .i64)) [(X32,[75])],ap (ys:=[X32]) 14 13 76 77 (tL 1 (Dat.int .i64)) O8,wr 32 O9] {is:=[77],js:=[14]}))))))))))) (rt [] {is:=[13],js:=[14]})) (kS (kA λ_=>rt [nr 78 79 47 (tL 1 (Dat.int .i64))] {is:=[79],js:=[78]}) (kA λ_=>rt [] {is:=[78],js:=[79]})))))
def vR (n:Nat) (d0:ey) (d1:List CD) (K1:List (List Bs)×Int) (K2:List Bs×Int):Option (Lp (List Bs×Int) (List Bs)):=(aq d1 K1.2).bind λX1=>bif decide (K2.2<(X1.length:Int)) then(aq d1 K1.2).bind λX3=>(aq X3 K2.2).bind λX5=>(bif decide ((0:Int)≤X5) then some (decide (X5<(d0.aU.length:Int))) else some (false):Option Bool).bind λG1=>bif G1 then(aq d0.aU X5).bind λX7=>ar ((K2.1.length+1)*16≤140737488355328)<|ar (inR .i64 (K2.2+1))<|some (.nx (K2.1++[X7.ci],K2.2+1)) else ar (inR .i64 (K2.2+1))<|some (.nx (K2.1,K2.2+1)) else some (.br K2.1)
def vQ (d0:ey) (d1:List CD) (K1:List (List Bs)×Int):Option (Lp (List (List Bs)×Int) (List (List Bs))):=bif decide (K1.2<(d1.length:Int)) then(av (vR n d0 d1 K1) n (([]:List Bs),(0:Int))).bind λG2=>ar ((K1.1.length+1)*24≤140737488355328)<|ar (inR .i64 (K1.2+1))<|some (.nx (K1.1++[G2],K1.2+1)) else some (.br K1.1)
def qT (d0:ey) (d1:List CD):Option (List (List Bs)):=(av (vQ n d0 d1) n (([]:List (List Bs)),(0:Int))).bind λG3=>some (G3)
theorem ref19_Names_C (d0:ey) (d1:List CD) (z:Zs):oK (dt.facts d0 z++[.sli 1 (eL 1 (Dat.int .i64)) (z 2).A (z 2).c d1]) [] 53 [dt.ag d0 z,wX (z 2) d1] (qT n d0 d1) (λr y=>⟨(y 1).sl r.length,[rX 58 1 (y 1) r],[qX 1 (eL 1 Dat.str) (y 1) r]⟩):=
 fn 55 Tryz.func53 (lp [bx 3,nr 4 5 58 (tL 1 Dat.str)] {is:=[5],js:=[4]} (λK1 z _=>{L:=[(5,(z 1).sl K1.1.length),(6,.int .i64 K1.2)],ks:=[1,2],E:=[(7,rX 58 1 (z 1) K1.1)],x:=[4],F:=[(6,qX 1 (eL 1 Dat.str) (z 1) K1.1)]}) (λG3 z _=>{e:=.exit 0,L:=[(5,(z 1).sl G3.length)],E:=[(33,rX 58 1 (z 1) G3)],x:=[4],F:=[(32,qX 1 (eL 1 Dat.str) (z 1) G3)]}) (λK1=>br [] (lp [nr 8 9 9 tS] {is:=[9],js:=[8]} (λK2 z _=>{L:=[(7,(z 1).sl K2.1.length),(8,.int .i64 K2.2)],ks:=[1,2,5,6],E:=[(11,rX 9 1 (z 1) K2.1)],x:=[8],F:=[(10,qX 1 Dat.str (z 1) K2.1)]}) (λG2 z _=>{e:=.exit 2,L:=[(7,(z 1).sl G2.length)],ks:=[1,2,5,6],E:=[(27,rX 9 1 (z 1) G2)],x:=[8],F:=[(26,qX 1 Dat.str (z 1) G2)]}) (λK2=>ob (λ_ X2=>br [I 2 12 (tL 1 (Dat.int .i64)) X2,K 12 0] (ob (λ_ X4=>ob (λ_ X6=>jn (.reg 10) [I 2 14 (tL 1 (Dat.int .i64)) X4,K 14 0,I 15 16 (tI .i64) X6,K 16 0] (λG1 _ _=>{L:=[(40,.bool G1)],ks:=[1,2,5,6,7,8,9]}) (bs [] 34 (rt [K 3 1]) (rt [])) (kA λ_=>br [] (ob (λX7 X8=>nd (λO1=>nd (λO2=>rt [K 3 1,I 1 17 iy X8,K 17 0,ao 23,lk 23 24 tS [(X7.ci,[])],ap (ys:=[X7.ci]) 11 10 24 25 tS O1,wr 24 O2] {is:=[25],js:=[11]})))) (nd (λO3=>rt [wr 24 O3] {is:=[10],js:=[11]})))))) (rt [] {is:=[10],js:=[11]}))) (kA λG2=>nd (λO4=>nd (λO5=>rt [ao 28,ri 27 26 29,lk 28 30 (tL 1 Dat.str) [(G2,[29])],ap (ys:=[G2]) 7 6 30 31 (tL 1 Dat.str) O4,wr 15 O5] {is:=[31],js:=[7]})))) (rt [] {is:=[6],js:=[7]})) (kA λ_=>rt [] {is:=[32],js:=[33]}))
variable {n:Nat}
def Sg {α:Type} (P:List α) (k:Nat) (way done:List α):Prop:=∃rest:List α,rest.length≤k∧way.length+done.length+rest.length≤1000000000000∧∀s∈P,s∈way∨s∈done∨s∈rest
theorem Sg.mono {α:Type} {P:List α} {k k':Nat} {way done:List α} (h:Sg P k way done) (hk:k≤k'):Sg P k' way done:=by
 obtain⟨r,h1,h2⟩:=h
 exact⟨r,by omega,h2⟩
theorem Sg.go {α:Type} [DecidableEq α] {P:List α} {k:Nat} {way done:List α} {s:α} (h:Sg P k way done) (hs:s∈P) (h1:s∉way) (h2:s∉done): ∃j,k=j+1∧Sg P j (way++[s]) done:=by
 obtain⟨r,g1,g2,g3⟩:=h
 have hr:s∈r:=(g3 s hs).elim (λh=>(h1 h).elim) λh=>h.elim (λh=>(h2 h).elim) id
 have hl:=List.length_erase_of_mem hr
 have h0:=List.length_pos_of_mem hr
 refine⟨k-1,by omega,r.erase s,by omega,by simp;omega,λx hx=>?_⟩
 by_cases e:x=s
 ·exact .inl (by simp[e])
 rcases g3 x hx with h|h|h
 ·exact .inl (List.mem_append_left _ h)
 ·exact .inr (.inl h)
 exact .inr (.inr ((List.mem_erase_of_ne e).2 h))
theorem Sg.back {α:Type} {P:List α} {k:Nat} {way done:List α} {s:α} (h:Sg P k (way++[s]) done):Sg P k way (done++[s]):=by
 obtain⟨r,g1,g2,g3⟩:=h
 refine⟨r,g1,by simp at g2 ⊢;omega,λx hx=>?_⟩
 rcases g3 x hx with h|h|h
 ·rcases List.mem_append.1 h with h|h
  ·exact .inl h
  exact .inr (.inl (List.mem_append_right _ h))
 ·exact .inr (.inl (List.mem_append_left _ h))
 exact .inr (.inr h)
theorem step_eq' {x d:ac}: (Vc.andL [(x.out==d.out),decide (x.scope=d.scope),decide (x.name=d.name)])=true↔x=d:=by
 cases x;cases d;simp[andL]
variable {P:List ac} {sl:List cb} {nl:List cj} {cs:List (List aG)} {en:List Bool}
structure E19 (P:List ac) (sl:List cb) (nl:List cj) (cs:List (List aG)) (en:List Bool):Prop where
 fl:FlOK ⟨sl,nl⟩
 my:MyOK ⟨sl,nl⟩
 cl:cs.length=sl.length
 cv: ∀l∈cs,l.length≤6
 el:en.length=nl.length
 pa: ∀i s,aq sl i=some s→∀a∈s.bG,(⟨false,i,a.aE⟩:ac)∈P
 po: ∀i s,aq sl i=some s→∀o∈s.fT.bM,(⟨true,i,o.aE⟩:ac)∈P
variable {us:List Bool} {way done:List ac} {err:Int} {k:Nat}
abbrev R19:=List Bool×List ac×List ac×Int
def Rt (P:Cu) (L k:Nat) (way:Cu) (r:R19):Prop:=r.1.length=L∧r.2.1=way∧Sg P k r.2.1 r.2.2.1
abbrev W19:=(List cb)→(List cj)→(List (List aG))→(List Bool)→(List Bool)→(List ac)→(List ac)→Int→Int→bZ→Option R19
def Wl (P:Cu) (sl:Ct) (nl:Cs) (cs:List Cp) (en:CE) (W:W19) (k D:Nat):Prop:=∀us way done (err i:Int) y,us.length=nl.length→Sg P k way done→0≤i∧i<sl.length→dsz (aN y)<D→Tot (W sl nl cs en us way done err i y) (Rt P nl.length k way)
variable {W:W19} {D:Nat}
theorem enter19 {s:ac} (hn:10000000000001<n) (hS:Sg P k way done):Tot (eJ n sl nl cs en us way done err s) λr=>(r.1=true→r.2.1=way++[s]∧s∉way∧s∉done)∧(r.1=false→r.2.1=way):=by
 obtain⟨_,_,hl,_⟩:=hS
 unfold eJ
 refine Tot.b (Tot.m (R:=λr=>match r with|.inl r=>True|.inr r=>s∉way) (Tot.lm way (λt:Int×Int=>t.1) (λy=>y≠s) (λt=>True) (by omega) rfl trivial (Q:=λr:Sum Unit Int=>match r with|.inl r=>True|.inr r=>s∉way) λt h1 he hm=>?_) λr hr=>?_)
 ·unfold lx
  exact Tot.cd (λh3=>Tot.b (Tot.gm ⟨h1,h3⟩ λy hy ht=>Tot.c (λ_=>Tot.sb trivial) λh=>Tot.i (by omega) (Tot.sn ⟨h3,rfl,ht hm λe=>(by rw[step_eq'.2 e] at h;cases h),trivial⟩))) λh3=>Tot.sb λh=>cu h3 hm s h rfl
 cases r with
 |inl r=>exact Tot.s ⟨by simp,λ_=>rfl⟩
 |inr r=>
  refine Tot.b (Tot.m (R:=λb=>match b with|.inl v=>True|.inr _=>s∉done) (Tot.lm done (λt:Int=>t) (λy=>y≠s) (λ_=>True) (by omega) rfl trivial (Q:=λb:Sum Unit Unit=>match b with|.inl v=>True|.inr _=>s∉done) λt h1 _ hm=>?_) λb hb=>?_)
  ·unfold ly
   exact Tot.cd (λh3=>Tot.b (Tot.gm ⟨h1,h3⟩ λy hy ht=>Tot.c (λ_=>Tot.sb trivial) λh=>Tot.i (by omega) (Tot.sn ⟨h3,rfl,ht hm λe=>(by rw[step_eq'.2 e] at h;cases h),trivial⟩))) λh3=>Tot.sb λh=>cu h3 hm s h rfl
  cases b with
  |inl v=>exact Tot.s ⟨by simp,λ_=>rfl⟩
  |inr _=>exact Tot.b (Tot.n (by omega) (Tot.s (Tot.s ⟨λ_=>⟨rfl,hr,hb⟩,by simp⟩)))
theorem leave19 {s:ac} (hS:Sg P k (way++[s]) done):Tot (eK n sl nl cs en us (way++[s]) done err) λr=>r.1=way∧Sg P k way r.2:=by
 have e:aq (way++[s]) (((way++[s]).length:Int)-1)=some s:=by simp[aq]
 have hS':=hS
 obtain⟨_,_,hlen,_⟩:=hS'
 simp at hlen
 unfold eK
 refine Tot.i (by simp;omega) (Tot.b (Tot.b (Tot.ge e (Tot.n (by omega) (Tot.s (Tot.n (by simp;omega) (Tot.s ⟨?_,hS.back⟩)))))))
 dsimp only
 rw[show(((way++[s]).length:Int)-1).toNat=way.length by simp]
 simp
theorem node19 {i:Int} {x:Bs} (hn:10000000000001<n) (hE:E19 P sl nl cs en) (hu:us.length=nl.length) (hx:x.length≤10000000000000):Tot (gn n sl nl cs en us way done err i x) λr=>r.1.length=nl.length:=by
 have hel:=hE.el
 unfold gn
 refine Tot.b ((Tt.t (x:=kb n ⟨sl,nl⟩ i x) ⟨hn,hE.fl,hx⟩).m λr hr=>Tot.b (Tot.m (R:=λb=>b=false→0≤r.1∧r.1<nl.length) (Tot.cn (Tot.c (λh=>Tot.b (Tot.gy (by have:=hr h;dsimp only at this;omega) λ_ _ _=>Tot.s λ_=>hr h)) λ_=>Tot.s (by simp))) λb hb=>Tot.c (λ_=>Tot.s hu) λh=>Tot.b (Tot.gy (by have:=hb h;omega) λ_ _ _=>Tot.s (by simp[hu]))))
theorem ref19' {i:Int} {x:Bs} (hn:10000000000001<n) (hE:E19 P sl nl cs en) (hW: ∀j,j<k→Wl P sl nl cs en W j 2000001) (hi:0≤i∧i<sl.length) (hu:us.length=nl.length) (hS:Sg P k way done) (hx:x.length≤10000000000000):Tot (ib n W sl nl cs en us way done err i x) (Rt P nl.length k way):=by
 obtain⟨sc,hsc,hscm⟩: ∃s,aq sl i=some s∧s∈sl:=Tot.gy (Q:=λx=>x∈sl) hi λ_ _ h=>h
 have hsk:=hE.fl.2.2.1 sc hscm
 have l1:=lU sc.fT.bQ
 have l2:=lU sc.bG
 have l3:=hsk.1
 have l4:=hsk.2.2.2.1
 unfold ib
 refine Tot.b (Tot.ge hsc (Tot.b (Tot.m (R:=λ_=>True) ?_ λy _=>Tot.c (λ_=>Tot.cd (λ_=>Tot.s ⟨hu,rfl,hS⟩) λh0=>?_) λ_=>Tot.b ((node19 hn hE hu hx).m λu hu=>Tot.s ⟨hu,rfl,hS⟩))))
 ·unfold vS
  refine Tot.b (Tot.m (R:=λ_=>True) (Tot.li (λs=>s) (λ_=>True) sc.fT.bQ.length (by omega) (by simp) λs h1 _=>by unfold vT;exact tgo) λb _=>?_)
  cases b<;>exact Tot.s trivial
 refine Tot.b (Tot.m (R:=λb=>match b with|.inl y=>Rt P nl.length k way y|.inr y=>Rt P nl.length k way y) (Tot.li (λs=>s.1) (λs=>(s.2.1,s.2.2.1,s.2.2.2.1)=(us,way,done)) sc.bG.length (by omega) ⟨by simp,rfl⟩ λs h1 h2=>?_) λb hb=>?_)
 ·obtain⟨q,u,w,d,e⟩:=s
  simp only[Prod.mk.injEq] at h2
  obtain⟨e1,e2,e3⟩:=h2
  subst e1;subst e2;subst e3
  have hpar:=hE.my.2.1 i (by omega) sc hsc
  unfold lz
  refine Tot.cd (λh3=>Tot.b (Tot.gx ⟨h1,h3⟩ λa hae ham haz haq=>Tot.cd (λhname=>?_) λ_=>Tot.i (by dsimp only at h1;omega) (Tot.sn ⟨h3,by dsimp only;omega,rfl⟩))) λ_=>Tot.sb ⟨hu,rfl,hS⟩
  have haq:_∧_:=haq
  simp only[Sz.f,zz,zl] at haz l4
  refine Tot.b ((enter19 hn hS).m λr ⟨r1,r2⟩=>Tot.c (λh=>Tot.b (Tot.ge hae ?_)) λh=>Tot.sb ⟨hu,r2 h,by dsimp only;rw[r2 h];exact hS⟩)
  obtain⟨g1,g3,g4⟩:=r1 h
  obtain⟨j,hj,hSj⟩:=hS.go (by rw[←hname];exact hE.pa i sc hsc a ham) g3 g4
  dsimp only
  rw[g1]
  refine Tot.b ((hW j (by omega) _ _ _ _ _ _ hu hSj (by omega) (by omega)).m λv ⟨u1,u2,u3⟩=>?_)
  rw[u2] at u3 ⊢
  exact Tot.b ((leave19 u3).m λz ⟨z1,z2⟩=>Tot.sb ⟨u1,z1,by dsimp only;rw[z1];exact z2.mono (by omega)⟩)
 cases b with
 |inl y=>exact Tot.s hb
 |inr y=>exact Tot.s hb
theorem attr19 {i:Int} {x a:Bs} (hn:10000000000001<n) (hE:E19 P sl nl cs en) (hW: ∀j,j<k→Wl P sl nl cs en W j 2000001) (hu:us.length=nl.length) (hS:Sg P k way done) (hx:x.length≤10000000000000):Tot (iG n W sl nl cs en us way done err i x a) (Rt P nl.length k way):=by
 unfold iG
 refine Tot.b ((Tt.t (x:=iZ n ⟨sl,nl⟩ i x) ⟨hn,hE.fl,hx⟩).m λr hr=>Tot.cn (Tot.c (λh=>?_) λ_=>Tot.b ((node19 hn hE hu hx).m λu hu=>Tot.s ⟨hu,rfl,hS⟩)))
 have hi:0≤r.1∧r.1<sl.length:=hr h
 obtain⟨sc,hsc,hscm⟩: ∃s,aq sl r.1=some s∧s∈sl:=Tot.gy (Q:=λx=>x∈sl) hi λ_ _ h=>h
 have hsk:=hE.fl.2.2.1 sc hscm
 have l2:=lU sc.fT.bM
 have l4:=hsk.2.2.1
 refine Tot.b (Tot.ge hsc (Tot.b (Tot.m (R:=λb=>b=false→9≤a.length) (Tot.cd (λ_=>Tot.s (by simp)) λh=>Tot.n (by omega) (Tot.s (λ_=>by omega))) λb hb=>Tot.c (λ_=>Tot.s ⟨hu,rfl,hS⟩) λh=>?_)))
 have h9:=hb h
 refine Tot.b (Tot.m (R:=λb=>match b with|.inl y=>Rt P nl.length k way y|.inr y=>Rt P nl.length k way y) (Tot.li (λs=>s.1) (λs=>(s.2.1,s.2.2.1,s.2.2.2.1)=(us,way,done)) sc.fT.bM.length (by omega) ⟨by simp,rfl⟩ λs h1 h2=>?_) λb hb=>?_)
 ·obtain⟨q,u,w,d,e⟩:=s
  simp only[Prod.mk.injEq] at h2
  obtain⟨e1,e2,e3⟩:=h2
  subst e1;subst e2;subst e3
  unfold mW
  refine Tot.cd (λh3=>Tot.b (Tot.gx ⟨h1,h3⟩ λo hae ham haz haq=>Tot.n (by omega) (Tot.cn (Tot.cd (λhname=>?_) λ_=>Tot.i (by dsimp only at h1;omega) (Tot.sn ⟨h3,by dsimp only;omega,rfl⟩))))) λ_=>Tot.sb ⟨hu,rfl,hS⟩
  have haq:_∧_:=haq
  simp only[Sz.f,zz,zl] at haz l4
  refine Tot.cl ⟨hn,hE.cv⟩ λ_ _=>Tot.cn (Tot.c (λ_=>?_) λ_=>Tot.sb ⟨hu,rfl,hS⟩)
  refine Tot.b ((enter19 hn hS).m λr ⟨r1,r2⟩=>Tot.c (λh=>?_) λh=>Tot.sb ⟨hu,r2 h,by dsimp only;rw[r2 h];exact hS⟩)
  obtain⟨g1,g3,g4⟩:=r1 h
  obtain⟨j,hj,hSj⟩:=hS.go (hE.po _ sc hsc o ham) g3 g4
  dsimp only
  rw[g1]
  refine Tot.b ((hW j (by omega) _ _ _ _ _ _ hu hSj hi (by omega)).m λv ⟨u1,u2,u3⟩=>?_)
  rw[u2] at u3 ⊢
  exact Tot.b ((leave19 u3).m λz ⟨z1,z2⟩=>Tot.sb ⟨u1,z1,by dsimp only;rw[z1];exact z2.mono (by omega)⟩)
 cases b with
 |inl y=>exact Tot.s hb
 |inr y=>exact Tot.s hb
theorem ex19 (hn:10000000000001<n) (hE:E19 P sl nl cs en) (f:Nat): ∀k D:Nat,k*2000001+D≤f→D≤2000001→Wl P sl nl cs en (cX n f) k D:=by
 induction f with
 |zero=>intro k D hf hD us way done err i x hu hS hi hx;omega
 |succ f ih=>
  intro k D hf hD us way done err i x hu hS hi hx
  have hp:_∧_:=Sz.p x
  have W1:=ih k (dsz (aN x)) (by omega) (by omega)
  have W2: ∀j,j<k→Wl P sl nl cs en (cX n f) j 2000001:=λj hj=>ih j 2000001 (le_D hj hf (by omega)) (Nat.le_refl _)
  obtain⟨l,hl,hlm⟩: ∃l,aq cs i=some l∧l∈cs:=Tot.gy (Q:=λx=>x∈cs) (by have:=hE.cl;omega) λ_ _ h=>h
  have h6:=hE.cv l hlm
  unfold cX jA
  refine Tot.cn (Tot.cd (λh0=>?_) λh=>Tot.s ⟨hu,rfl,hS⟩)
  refine Tot.cd (λ_=>Tot.b ((ref19' hn hE W2 hi hu hS (by omega)).m λr hr=>Tot.s hr)) λ_=>Tot.cd (λ_=>Tot.b ((attr19 hn hE W2 hu hS (by omega)).m λr hr=>Tot.s hr)) λ_=>Tot.cd (λ_=>?_) λ_=>?_
  ·refine Tot.b (Tot.m (R:=λb=>b=false→x.fL.length=2) (Tot.cn (Tot.cd (λh=>Tot.b (Tot.m (R:=λ_=>True) ?_ λ_ _=>Tot.s λ_=>by omega)) λ_=>Tot.s (by simp))) λb hb=>Tot.c (λ_=>Tot.s ⟨hu,rfl,hS⟩) λh=>Tot.cl ⟨hn,hE.cv⟩ λ_ _=>?_)
   ·unfold kN
    refine Tot.b (Tot.m (R:=λ_=>True) (Tot.li (λs=>s) (λ_=>True) l.length (by omega) (by simp) λs h1 _=>?_) λb _=>by cases b<;>exact Tot.s trivial)
    unfold mX
    exact Tot.b (Tot.ge hl (Tot.cd (λh2=>Tot.b (Tot.ge hl (Tot.b (Tot.gy ⟨h1,h2⟩ λg hg _=>by exact tgo)))) λ_=>Tot.sb trivial))
   have:=hb h
   refine Tot.b (Tot.m (R:=Rt P nl.length k way) (Tot.c (λ_=>Tot.b (Tot.gx (by omega) λy _ _ hys _=>?_)) λ_=>Tot.b (Tot.gx (by omega) λy _ _ hys _=>?_)) λr hr=>Tot.s hr)
   all_goals
    simp only[Sz.f,zz,zl] at hys
    exact Tot.b ((W1 us way done err i y hu hS hi (by omega)).m λr hr=>Tot.s hr)
  refine Tot.b (Tot.m (R:=Rt P nl.length k way) (Tot.li (λs=>s.1) (λs=>Rt P nl.length k way s.2) x.fL.length (by omega) ⟨by simp,hu,rfl,hS⟩ λs h1 ⟨h2,h3,h4⟩=>?_) λr hr=>Tot.s hr)
  unfold mZ
  refine Tot.cd (λh5=>Tot.b (Tot.gx ⟨h1,h5⟩ λy _ _ hys _=>?_)) λ_=>Tot.sb ⟨h2,h3,h4⟩
  simp only[Sz.f,zz,zl] at hys
  refine Tot.b ((W1 s.2.1 s.2.2.1 s.2.2.2.1 s.2.2.2.2 i y h2 h4 hi (by omega)).m λr ⟨r1,r2,r3⟩=>Tot.i (by omega) (Tot.sn ⟨h5,by dsimp only;omega,r1,by dsimp only;rw[r2,h3],r3⟩))
def steps19 (sl:Ct):Cu:=(stepsOf sl).map λs=>⟨s.out,s.scope,s.name⟩
theorem steps19_pa {i:Int} {s:cb} (h:aq sl i=some s): ∀a∈s.bG,(⟨false,i,a.aE⟩:ac)∈steps19 sl:=λa ha=>List.mem_map.2 ⟨_,aAc h a ha,rfl⟩
theorem steps19_po {i:Int} {s:cb} (h:aq sl i=some s): ∀a∈s.fT.bM,(⟨true,i,a.aE⟩:ac)∈steps19 sl:=λa ha=>List.mem_map.2 ⟨_,aAd h a ha,rfl⟩
theorem zR (hf:FlOK ⟨sl,nl⟩): (steps19 sl).length≤1000000000000:=by unfold steps19;rw[List.length_map];exact rj hf
theorem Sg0 (hf:FlOK ⟨sl,nl⟩):Sg (steps19 sl) (steps19 sl).length [] []:=⟨steps19 sl,Nat.le_refl _,by have:=zR hf;simp;omega,λs h=>.inr (.inr h)⟩
theorem start19 {f:ey} {gs:Cp} (hn:10000000000001<n) (hf:FlOK f) (hg:SmG gs):Tot (mV n f gs) λr=>match r with|.inl e=>e≠0|.inr t=>(∃c,dp n f gs=some c∧c.2=0)∧∃cs en,t=(0,f.aV,f.aU,cs,en,List.replicate f.aU.length false,[],[],0)∧E19 (steps19 f.aV) f.aV f.aU cs en:=by
 obtain⟨c,hc,hc'⟩:=Tt.t (x:=dp n f gs) ⟨hn,hf,hg⟩
 have:=hf.2.1
 unfold mV
 refine Tot.b (Tot.ge hc (Tot.cn (Tot.cd (λh0=>?_) λh=>Tot.s h)))
 obtain⟨hm,hcv⟩:=hc' h0
 exact Tot.b ((enabled17 hn hf hg hc h0).m λe he=>Tot.cn (Tot.cd (λ_=>Tot.n (by omega) (Tot.s ⟨⟨c,hc,h0⟩,c.1,e.1,rfl,hf,hm,hcv.1,hcv.2,he.2,λi s h=>steps19_pa h,λi s h=>steps19_po h⟩)) λh=>Tot.s h))
def RwOK (L:Nat) (l:List CD):Prop:=l.length=L∧∀r∈l,r.length≤L∧∀i∈r,0≤i∧i<L
instance {l:List Bool}:Tt (oH n l) (10000000000001<n∧l.length≤2000000) λr=>r.length≤l.length∧∀i∈r,0≤i∧i<l.length:=⟨λ ⟨hn,hl⟩=>by
 unfold oH
 refine Tot.b (Tot.m (R:=λr=>r.length≤l.length∧∀i∈r,0≤i∧i<l.length) (Tot.li (λs=>s.2) (λs=>s.2≤l.length∧s.1.length≤s.2∧∀i∈s.1,0≤i∧i<l.length) l.length (by omega) (by simp) λs h1 ⟨h2,h3,h4⟩=>?_) λr hr=>Tot.s hr)
 unfold uG
 refine Tot.cd (λh5=>Tot.b (Tot.gy ⟨h1,h5⟩ λb _ _=>Tot.c (λ_=>Tot.n (by omega) (Tot.i (by omega) (Tot.sn ⟨h5,by dsimp only;omega,by dsimp only;omega,by simp;omega,λi hi=>?_⟩))) λ_=>Tot.i (by omega) (Tot.sn ⟨h5,by dsimp only;omega,by dsimp only;omega,by dsimp only;omega,h4⟩))) λ_=>Tot.sb ⟨by omega,h4⟩
 rcases List.mem_append.1 hi with hi|hi
 · exact h4 i hi
 · rw[List.mem_singleton.1 hi];exact⟨h1,h5⟩⟩
theorem run19 {f:ey} {gs:Cp} (hN:10000000000000000000<n) (hf:FlOK f) (hg:SmG gs):Tot (wA n f gs) λr=>r.2.2=0→RwOK f.aU.length r.1∧∃c,dp n f gs=some c∧c.2=0:=by
 obtain⟨t,ht,ht'⟩:=start19 (n:=n) (by omega) hf hg
 unfold wA
 refine Tot.b (Tot.ge ht ?_)
 cases t with
 |inl e=>exact Tot.cn (Tot.cd (λh=>(ht' h).elim) λh=>Tot.s λh'=>(h h').elim)
 |inr t=>
  obtain⟨hc,cs,en,rfl,hE⟩:=ht'
  have hel:=hE.el
  have hnl:=hE.fl.2.1
  dsimp only at hnl
  have hW:Wl (steps19 f.aV) f.aV f.aU cs en (kO n) (steps19 f.aV).length 2000001:=ex19 (by omega) hE n _ 2000001 (by have:=zR hE.fl;omega) (Nat.le_refl _)
  refine Tot.cn (Tot.cd (λ_=>Tot.b (Tot.m (R:=λb=>match b with|.inl e=>e.2≠0|.inr r=>RwOK f.aU.length r) (Tot.li (λs=>s.2) (λs=>s.2≤f.aU.length∧s.1.length=s.2∧∀r∈s.1,r.length≤f.aU.length∧∀i∈r,0≤i∧i<f.aU.length) f.aU.length (by omega) (by simp) λs h1 ⟨h2,h3,h4⟩=>?_) λb hb=>?_)) λh=>Tot.s λh'=>(h h').elim)
  ·unfold yu
   refine Tot.cd (λh5=>Tot.b (Tot.ge ht ?_)) λ_=>Tot.sb ⟨by omega,h4⟩
   have put: ∀r:CD,(r.length≤f.aU.length∧∀i∈r,0≤i∧i<f.aU.length)→∀x∈s.1++[r],x.length≤f.aU.length∧∀i∈x,0≤i∧i<f.aU.length:=λr hr x hx=>by
    rcases List.mem_append.1 hx with hx|hx
    ·exact h4 x hx
    rw[List.mem_singleton.1 hx];exact hr
   refine Tot.b (Tot.gy (by dsimp only;omega) λb _ _=>Tot.cn (Tot.c (λ_=>?_) λ_=>Tot.n (by omega) (Tot.i (by omega) (Tot.sn ⟨h5,by dsimp only;omega,by dsimp only;omega,by simp;omega,put _ (by simp)⟩))))
   obtain⟨d,hd,hdm⟩: ∃l,aq f.aU s.2=some l∧l∈f.aU:=Tot.gy (Q:=λx=>x∈f.aU) ⟨h1,h5⟩ λ_ _ h=>h
   have hsc:=hE.my.2.2 d hdm
   obtain⟨hz,_,_,hz4⟩:=hE.fl.2.2.2 d hdm
   have hp:_∧_:=Sz.p d.fR
   refine Tot.b (Tot.ge hd (Tot.b (Tot.m (R:=λr=>r.1.length=f.aU.length) (Tot.li (λs=>s.1) (λs=>s.2.1.length=f.aU.length∧s.2.2.1=[]∧Sg (steps19 f.aV) (steps19 f.aV).length s.2.2.1 s.2.2.2.1) d.fR.bk.length (by omega) ⟨by simp,by simp,rfl,Sg0 hE.fl⟩ λs2 f1 ⟨f2,f3,f4⟩=>?_) λr hr=>Tot.cn (Tot.cd (λ_=>?_) λh=>Tot.sb h))))
   ·unfold yv
    refine Tot.cd (λf5=>Tot.b (Tot.gx ⟨f1,f5⟩ λp _ _ hps hpq=>?_)) λ_=>Tot.sb f2
    have hpq:_∧_:=hpq
    simp only[Sz.f,zz,zl] at hps
    exact Tot.b ((hW s2.2.1 s2.2.2.1 s2.2.2.2.1 s2.2.2.2.2 d.cK p.fE f2 f4 hsc (by omega)).m λr ⟨r1,r2,r3⟩=>Tot.i (by omega) (Tot.sn ⟨f5,by dsimp only;omega,r1,by dsimp only;rw[r2,f3],r3⟩))
   refine Tot.b (Tot.m (R:=λr=>r.length=f.aU.length) (Tot.li (λs=>s.1) (λs=>s.2.length=f.aU.length) d.ju.length (by omega) ⟨by simp,hr⟩ λs3 f1 f2=>?_) λu hu=>Tot.cl ⟨by omega,by omega⟩ λv hv=>Tot.n (by omega) (Tot.i (by omega) (Tot.sn ⟨h5,by dsimp only;omega,by dsimp only;omega,by simp;omega,put _ (by rw[hu] at hv;exact hv)⟩)))
   unfold yw
   refine Tot.cd (λf5=>Tot.b (Tot.m (R:=λr=>r.length=f.aU.length) (Tot.li (λs=>s.1) (λs=>s.2.length=f.aU.length) f.aU.length (by omega) ⟨by simp,f2⟩ λs4 e1 e2=>?_) λu hu=>Tot.i (by omega) (Tot.sn ⟨f5,by dsimp only;omega,hu⟩))) λ_=>Tot.sb f2
   unfold yx
   refine Tot.cd (λe3=>Tot.b (Tot.gy (by omega) λb hb _=>Tot.c (λ_=>Tot.b (Tot.ge hb (Tot.i (by omega) (Tot.sn ⟨e3,by dsimp only;omega,by simp[e2]⟩)))) λ_=>Tot.b (Tot.gy ⟨e1,e3⟩ λx _ _=>Tot.b (Tot.gy ⟨f1,f5⟩ λy _ _=>Tot.cd (λ_=>Tot.b (Tot.gy (by dsimp only;omega) λz _ _=>Tot.b (Tot.ge hb ?_))) λ_=>Tot.b (Tot.ge hb ?_))))) λ_=>Tot.sb e2
   all_goals exact Tot.i (by omega) (Tot.sn ⟨e3,by dsimp only;omega,by simp[e2]⟩)
  cases b with
  |inl e=>exact Tot.s λh=>(hb h).elim
  |inr r=>exact Tot.s λ_=>⟨hb,hc⟩
theorem names19 {f:ey} {l:List CD} (hn:10000000000001<n) (hf:f.aU.length≤2000000) (hl:RwOK f.aU.length l):Tot (qT n f l) λr=>r.length=f.aU.length∧∀x∈r,x.length≤2000000:=by
 obtain⟨hl1,hl2⟩:=hl
 unfold qT
 refine Tot.b (Tot.m (R:=λr=>r.length=f.aU.length∧∀x∈r,x.length≤2000000) (Tot.li (λs=>s.2) (λs=>s.2≤f.aU.length∧s.1.length=s.2∧∀r∈s.1,r.length≤2000000) l.length (by omega) (by simp) λs h1 ⟨h2,h3,h4⟩=>?_) λr hr=>Tot.s hr)
 unfold vQ
 refine Tot.cd (λh5=>?_) λ_=>Tot.sb ⟨by omega,h4⟩
 obtain⟨d,hd,hdm⟩: ∃x,aq l s.2=some x∧x∈l:=Tot.gy (Q:=λx=>x∈l) ⟨h1,h5⟩ λ_ _ h=>h
 have hdl:=(hl2 d hdm).1
 refine Tot.b (Tot.m (R:=λr=>r.length≤2000000) (Tot.li (λs=>s.2) (λs=>s.2≤d.length∧s.1.length≤s.2) d.length (by omega) (by simp) λs2 f1 ⟨f2,f3⟩=>?_) λr hr=>Tot.n (by omega) (Tot.i (by omega) (Tot.sn ⟨h5,by dsimp only;omega,by dsimp only;omega,by simp;omega,λx hx=>?_⟩)))
 ·unfold vR
  refine Tot.b (Tot.ge hd (Tot.cd (λf5=>Tot.b (Tot.ge hd (Tot.b (Tot.gy ⟨f1,f5⟩ λi _ him=>Tot.b (Tot.m (R:=λ_=>True) tgo λb _=>?_))))) λ_=>Tot.sb (by omega)))
  have:=(hl2 d hdm).2 i him
  exact Tot.c (λ_=>Tot.b (Tot.gy this λ_ _ _=>Tot.n (by omega) (Tot.i (by omega) (Tot.sn ⟨f5,by dsimp only;omega,by dsimp only;omega,by simp;omega⟩)))) λ_=>Tot.i (by omega) (Tot.sn ⟨f5,by dsimp only;omega,by dsimp only;omega,by dsimp only;omega⟩)
 rcases List.mem_append.1 hx with hx|hx
 ·exact h4 x hx
 rw[List.mem_singleton.1 hx];exact hr
open Go.Ck
def ud (n:Nat) (d0:List CD) (K1:Int) (K2:Int):Option (Lp Int (Sum Unit Unit)):=(aq d0 K1).bind λX1=>bif decide (K2<(X1.length:Int)) then(aq d0 K1).bind λX3=>(aq X3 K2).bind λX5=>bif decide (X5<0) then some (.br (.inl ())) else(aq d0 K1).bind λX7=>(aq X7 K2).bind λX9=>bif decide ((d0.length:Int)≤X9) then some (.br (.inl ())) else ar (inR .i64 (K2+1))<|some (.nx (K2+1)) else some (.br (.inr ()))
def uc (n:Nat) (d0:List CD) (K1:Int):Option (Lp Int (Sum Unit Unit)):=bif decide (K1<(d0.length:Int)) then(av (ud n d0 K1) n (0:Int)).bind λQ2=>(match Q2 with|.inl G1=>some (.br (.inl ()))|.inr G2=>ar (inR .i64 (K1+1))<|some (.nx (K1+1))) else some (.br (.inr ()))
def lM (n:Nat) (d0:List CD):Option Bool:=(av (uc n d0) n (0:Int)).bind λQ1=>(match Q1 with|.inl G3=>some (false)|.inr G4=>some (true))
theorem zQ (n:Nat) (d0:List CD) (z:Zs):oK ([.sli 1 (eL 1 (Dat.int .i64)) (z 0).A (z 0).c d0]) [] 30 [wX (z 0) d0] (lM n d0) (λr y=>⟨.bool r,[],[]⟩):=
 fn 40 Tryz.func30 (lp [] {} (λK1 _ _=>{L:=[(3,.int .i64 K1)],ks:=[0]}) (λx z b=>match x with|.inl G3=>{e:=.ret,L:=[(2,.bool false)]}|.inr G4=>{e:=.exit 0}) (λK1=>br [] (lp [] {} (λK2 _ _=>{L:=[(4,.int .i64 K2)],ks:=[0,3]}) (λx z b=>match x with|.inl G1=>{e:=.ret,L:=[(2,.bool false)]}|.inr G2=>{e:=.exit 2,ks:=[0,3]}) (λK2=>ob (λ_ X2=>br [I 0 1 (tL 1 (Dat.int .i64)) X2,K 1 0] (ob (λ_ X4=>ob (λ_ X6=>bs [I 0 3 (tL 1 (Dat.int .i64)) X4,K 3 0,I 4 5 (tI .i64) X6,K 5 0] 28 (rt [cd true]) (ob (λ_ X8=>ob (λ_ X10=>br [I 0 6 (tL 1 (Dat.int .i64)) X8,K 6 0,I 7 8 (tI .i64) X10,K 8 0] (rt []) (nd (λO1=>rt [wr 19 O1])))))))) (rt []))) (kS (kA λ_=>rt []) (kA λ_=>nd (λO2=>rt [wr 10 O2])))) (rt [])) (kS (kA λ_=>rt []) (kA λ_=>rt [])))
def vX (n:Nat) (d0:List CD) (K1:CE×CD) (K2:Int×Int) (K3:Bool×Int):Option (Lp (Bool×Int) Bool):=(aq d0 K2.2).bind λX5=>bif decide (K3.2<(X5.length:Int)) then bif K3.1 then(aq d0 K2.2).bind λX7=>(aq X7 K3.2).bind λX9=>(aq K1.1 X9).bind λX11=>ar (inR .i64 (K3.2+1))<|some (.nx ((X11),K3.2+1)) else ar (inR .i64 (K3.2+1))<|some (.nx ((false),K3.2+1)) else some (.br (K3.1))
def vW (n:Nat) (d0:List CD) (K1:CE×CD) (K2:Int×Int):Option (Lp (Int×Int) Int):=bif decide ((0:Int)≤K2.2) then(aq K1.1 K2.2).bind λX3=>(av (vX n d0 K1 K2) n ((!X3),(0:Int))).bind λG1=>bif G1 then ar (inR .i64 (K2.2-1))<|some (.nx (K2.2,K2.2-1)) else ar (inR .i64 (K2.2-1))<|some (.nx (K2.1,K2.2-1)) else some (.br K2.1)
def vV (n:Nat) (d0:List CD) (K1:CE×CD):Option (Lp (CE×CD) (Sum Unit CD)):=bif decide ((K1.2.length:Int)<(d0.length:Int)) then ar (inR .i64 ((d0.length:Int)-1))<|(av (vW n d0 K1) n ((-1:Int),(d0.length:Int)-1)).bind λG2=>bif decide (G2<0) then some (.br (.inl ())) else(aq K1.1 G2).bind λX14=>ar ((K1.2.length+1)*8≤140737488355328)<|some (.nx (K1.1.set G2.toNat (true),K1.2++[G2])) else some (.br (.inr K1.2))
def qU (n:Nat) (d0:List CD):Option (CD×Int):=(lM n d0).bind λX1=>bif !X1 then some (([]:CD),(2:Int)) else ar (0≤(d0.length:Int)∧(d0.length:Int)*1≤140737488355328∧(d0.length:Int)≤140737488355328)<|(av (vV n d0) n (List.replicate (d0.length:Int).toNat (false:Bool),([]:CD))).bind λQ1=>(match Q1 with|.inl G3=>some (([]:CD),(200:Int))|.inr G4=>some (G4,(0:Int)))
set_option maxRecDepth 20000 in
theorem ref20_Order_C (n:Nat) (d0:List CD) (z:Zs):oK ([.sli 1 (eL 1 (Dat.int .i64)) (z 0).A (z 0).c d0]) [] 51 [wX (z 0) d0] (qU n d0) (λr y=>⟨.tuple #[wX (y 1) r.1,.int .i64 r.2],[rX 3 1 (y 1) r.1],[qX 1 (Dat.int .i64) (y 1) r.1]⟩):=
 fn 67 Tryz.func51 (ob (λ_ X2=>br [C (zQ n d0) X2 [0] [] 1] (rt [nr 1 2 3 (tI .i64)] {is:=[2],js:=[1]}) (nd (λO1=>lp [ms 1 2 tB (false:Bool) O1,nr 3 4 3 (tI .i64)] {is:=[2,4],js:=[1,3]} (λK1 z _=>{L:=[(4,(z 2).sl K1.1.length),(5,(z 3).sl K1.2.length)],ks:=[0],E:=[(6,rX 4 1 (z 2) K1.1),(8,rX 3 1 (z 3) K1.2)],x:=[1,3],F:=[(5,qX 1 Dat.bool (z 2) K1.1),(7,qX 1 (Dat.int .i64) (z 3) K1.2)]}) (λx z b=>match x with|.inl G3=>{e:=.ret,L:=[(2,.slice none 0 0),(3,.int .i64 200)],x:=[1,3]}|.inr G4=>{e:=.exit 0,L:=[(5,(z 1).sl G4.length)],E:=[(25,rX 3 1 (z 1) G4)],x:=[1,3],F:=[(24,qX 1 (Dat.int .i64) (z 1) G4)]}) (λK1=>br [] (nd (λO2=>lp [wr 23 O2] {} (λK2 _ _=>{L:=[(6,.int .i64 K2.1),(7,.int .i64 K2.2)],ks:=[0,4,5]}) (λG2 _ _=>{e:=.exit 2,L:=[(6,.int .i64 G2)],ks:=[0,4,5]}) (λK2=>br [] (ob (λ_ X4=>lp [Re 6 5 9 tB X4,X 10,Rd 6 9 0] {} (λK3 _ _=>{L:=[(8,.bool K3.1),(9,.int .i64 K3.2)],ks:=[0,4,5,6,7]}) (λG1 _ _=>{e:=.exit 4,L:=[(8,.bool G1)],ks:=[0,4,5,6,7]}) (λK3=>ob (λ_ X6=>br [I 0 11 (tL 1 (Dat.int .i64)) X6,K 11 0] (bs [] 43 (ob (λ_ X8=>ob (λ_ X10=>ob (λ_ X12=>nd (λO3=>rt [I 0 13 (tL 1 (Dat.int .i64)) X8,K 13 0,I 14 15 (tI .i64) X10,K 15 0,Re 6 5 16 tB X12,X 17,Rd 6 16 0,wr 41 O3]))))) (nd (λO4=>rt [wr 41 O4]))) (rt []))) (kA λ_=>br [] (nd (λO5=>rt [wr 27 O5])) (nd (λO6=>rt [wr 27 O6]))))) (rt [])) (kA λG2=>br [] (rt []) (ob (λ_ X15=>nd (λO7=>rt [Re 6 5 18 tB X15,X 19,Sr1 6 5 19 20 tB X15 (true) [] [4,59],ao 21,lk 21 22 (tI .i64) [(G2,[])],ap (ys:=[G2]) 8 7 22 23 (tI .i64) O7] {is:=[20,23],js:=[6,8]})))))) (rt [] {is:=[7],js:=[8]})) (kS (kA λ_=>rt [nr 24 25 3 (tI .i64)] {is:=[25],js:=[24]}) (kA λ_=>rt [] {is:=[24],js:=[25]}))))))
def vY (n:Nat) (K1:CD×Int):Option (Lp (CD×Int) CD):=bif decide (K1.2<(K1.1.length:Int)) then(aq K1.1 K1.2).bind λX1=>ar (inR .i64 (K1.2+1))<|some (.nx (K1.1.set K1.2.toNat (-1:Int),K1.2+1)) else some (.br K1.1)
def qj (n:Nat) (d0:List CD) (d1:Int) (K3:CD×Bool×Int) (K4:CD×Bool×Int):Option (Lp (CD×Bool×Int) (CD×Bool)):=(aq d0 K3.2.2).bind λX3=>bif decide (K4.2.2<(X3.length:Int)) then(aq d0 K3.2.2).bind λX5=>(aq X5 K4.2.2).bind λX7=>(bif !(decide (X7=d1)) then(aq K4.1 X7).bind λX9=>bif decide (X9<0) then(ar (inR .i64 (K4.2.2+1))<|some (.nx (K4.1,(K4.2.1),K4.2.2+1)):Option (Lp (CD×Bool×Int) (CD×Bool))).map Lp.br else(aq K4.1 X7).bind λX11=>ar (inR .i64 (X11+1))<|some (.nx (X11+1)) else some (.nx (1:Int)):Option (Lp Int (Lp (CD×Bool×Int) (CD×Bool)))).bind λj=>joinF j λG2=>((aq K4.1 K3.2.2).bind λX13=>bif decide (X13<0) then some (true) else(aq K4.1 K3.2.2).bind λX15=>some (decide (G2<X15)):Option Bool).bind λG3=>bif G3 then(aq K4.1 K3.2.2).bind λX17=>ar (inR .i64 (K4.2.2+1))<|some (.nx (K4.1.set K3.2.2.toNat G2,(true),K4.2.2+1)) else ar (inR .i64 (K4.2.2+1))<|some (.nx (K4.1,(K4.2.1),K4.2.2+1)) else some (.br (K4.1,(K4.2.1)))
def qi (n:Nat) (d0:List CD) (d1:Int) (K3:CD×Bool×Int):Option (Lp (CD×Bool×Int) (CD×Bool)):=bif decide (K3.2.2<(d0.length:Int)) then(av (qj n d0 d1 K3) n (K3.1,(K3.2.1),(0:Int))).bind λG4=>ar (inR .i64 (K3.2.2+1))<|some (.nx (G4.1,(G4.2),K3.2.2+1)) else some (.br (K3.1,(K3.2.1)))
def vZ (n:Nat) (d0:List CD) (d1:Int) (K2:CD×Bool):Option (Lp (CD×Bool) CD):=bif K2.2 then(av (qi n d0 d1) n (K2.1,(false),(0:Int))).bind λG5=>some (.nx (G5.1,(G5.2))) else some (.br K2.1)
def qV (n:Nat) (d0:List CD) (d1:Int):Option CD:=ar (0≤(d0.length:Int)∧(d0.length:Int)*8≤140737488355328∧(d0.length:Int)≤140737488355328)<|(av (vY n) n (List.replicate (d0.length:Int).toNat (0:Int),(0:Int))).bind λG1=>(av (vZ n d0 d1) n (G1,(true))).bind λG6=>some (G6)
set_option maxRecDepth 20000 in
theorem ref20_steps_C (n:Nat) (d0:List CD) (d1:Int) (z:Zs):oK ([.sli 1 (eL 1 (Dat.int .i64)) (z 0).A (z 0).c d0]) [] 31 [wX (z 0) d0,.int .i64 d1] (qV n d0 d1) (λr y=>⟨(y 1).sl r.length,[rX 3 1 (y 1) r],[qX 1 (Dat.int .i64) (y 1) r]⟩):=
 fn 78 Tryz.func31 (nd (λO1=>lp [ms 1 2 (tI .i64) (0:Int) O1] {is:=[2],js:=[1]} (λK1 z _=>{L:=[(5,(z 1).sl K1.1.length),(6,.int .i64 K1.2)],ks:=[0,1],E:=[(4,rX 3 1 (z 1) K1.1)],x:=[1],F:=[(3,qX 1 (Dat.int .i64) (z 1) K1.1)]}) (λG1 z _=>{e:=.exit 0,L:=[(5,(z 1).sl G1.length)],ks:=[0,1],E:=[(9,rX 3 1 (z 1) G1)],x:=[1],F:=[(8,qX 1 (Dat.int .i64) (z 1) G1)]}) (λK1=>br [] (ob (λ_ X2=>nd (λO2=>rt [Re 4 3 5 (tI .i64) X2,X 6,Sr1 4 3 6 7 (tI .i64) X2 (-1:Int) [] [5,21],wr 20 O2] {is:=[7],js:=[4]}))) (rt [] {is:=[3],js:=[4]})) (kA λ_=>lp [] {is:=[8],js:=[9]} (λK2 z _=>{L:=[(5,(z 1).sl K2.1.length),(7,.bool K2.2)],ks:=[0,1],E:=[(11,rX 3 1 (z 1) K2.1)],x:=[9],F:=[(10,qX 1 (Dat.int .i64) (z 1) K2.1)]}) (λG6 z _=>{e:=.exit 2,L:=[(5,(z 1).sl G6.length)],E:=[(37,rX 3 1 (z 1) G6)],x:=[9],F:=[(36,qX 1 (Dat.int .i64) (z 1) G6)]}) (λK2=>br [] (lp [] {is:=[10],js:=[11]} (λK3 z _=>{L:=[(5,(z 1).sl K3.1.length),(7,.bool K3.2.1),(8,.int .i64 K3.2.2)],ks:=[0,1],E:=[(13,rX 3 1 (z 1) K3.1)],x:=[11],F:=[(12,qX 1 (Dat.int .i64) (z 1) K3.1)]}) (λG5 z _=>{e:=.exit 4,L:=[(5,(z 1).sl G5.1.length),(7,.bool G5.2)],ks:=[0,1],E:=[(35,rX 3 1 (z 1) G5.1)],x:=[11],F:=[(34,qX 1 (Dat.int .i64) (z 1) G5.1)]}) (λK3=>br [] (lp [] {is:=[12],js:=[13]} (λK4 z _=>{L:=[(5,(z 1).sl K4.1.length),(7,.bool K4.2.1),(9,.int .i64 K4.2.2)],ks:=[0,1,8],E:=[(15,rX 3 1 (z 1) K4.1)],x:=[13],F:=[(14,qX 1 (Dat.int .i64) (z 1) K4.1)]}) (λG4 z _=>{e:=.exit 6,L:=[(5,(z 1).sl G4.1.length),(7,.bool G4.2)],ks:=[0,1,8],E:=[(33,rX 3 1 (z 1) G4.1)],x:=[13],F:=[(32,qX 1 (Dat.int .i64) (z 1) G4.1)]}) (λK4=>ob (λ_ X4=>br [I 0 16 (tL 1 (Dat.int .i64)) X4,K 16 0] (ob (λ_ X6=>ob (λ_ X8=>jb .no [I 0 18 (tL 1 (Dat.int .i64)) X6,K 18 0,I 19 20 (tI .i64) X8,K 20 0] (λG2 _ _=>{L:=[(11,.int .i64 G2)],ks:=[0,1,5,7,8,9]}) (br [] (ob (λ_ X10=>br [Re 15 14 21 (tI .i64) X10,X 22,Rd 15 21 0] (esc [] (nd (λO3=>rt [wr 39 O3] {is:=[14],js:=[15]}))) (ob (λ_ X12=>nd (λO4=>rt [Re 15 14 23 (tI .i64) X12,X 24,Rd 15 23 0,wr 59 O4]))))) (rt [])) (kA λG2=>jn (.reg 20) [] (λG3 _ _=>{L:=[(72,.bool G3)],ks:=[0,1,5,7,8,9,11]}) (ob (λ_ X14=>bs [Re 15 14 25 (tI .i64) X14,X 26,Rd 15 25 0] 65 (rt []) (ob (λ_ X16=>rt [Re 15 14 27 (tI .i64) X16,X 28,Rd 15 27 0])))) (kA λ_=>br [] (ob (λ_ X18=>nd (λO5=>rt [Re 15 14 29 (tI .i64) X18,X 30,Sr1 15 14 30 31 (tI .i64) X18 G2 [] [5,73],wr 39 O5] {is:=[31],js:=[15]}))) (nd (λO6=>rt [wr 39 O6] {is:=[14],js:=[15]}))))))) (rt [] {is:=[14],js:=[15]}))) (kA λ_=>nd (λO7=>rt [wr 30 O7] {is:=[32],js:=[33]}))) (rt [] {is:=[12],js:=[13]})) (kA λ_=>rt [] {is:=[34],js:=[35]})) (rt [] {is:=[10],js:=[11]})) (kA λ_=>rt [] {is:=[36],js:=[37]}))))
def uJ (n:Nat) (d0:List CD) (K1:Int) (X3:CD) (K2:CD×Int×Int) (K3:Int×Int):Option (Lp (Int×Int) Int):=(aq d0 K2.2.1).bind λX9=>bif decide (K3.2<(X9.length:Int)) then(aq d0 K2.2.1).bind λX11=>(aq X11 K3.2).bind λX13=>bif !(decide (X13=K1)) then(aq X3 X13).bind λX15=>ar (inR .i64 (K2.2.2-1))<|bif decide (X15=(K2.2.2-1)) then bif decide (K3.1<0) then ar (inR .i64 (K3.2+1))<|some (.nx (X13,K3.2+1)) else bif decide (X13<K3.1) then ar (inR .i64 (K3.2+1))<|some (.nx (X13,K3.2+1)) else ar (inR .i64 (K3.2+1))<|some (.nx (K3.1,K3.2+1)) else ar (inR .i64 (K3.2+1))<|some (.nx (K3.1,K3.2+1)) else ar (inR .i64 (K3.2+1))<|some (.nx (K3.1,K3.2+1)) else some (.br K3.1)
def uI (n:Nat) (d0:List CD) (K1:Int) (X3:CD) (K2:CD×Int×Int):Option (Lp (CD×Int×Int) CD):=bif decide ((1:Int)<K2.2.2) then(av (uJ n d0 K1 X3 K2) n ((-1:Int),(0:Int))).bind λG1=>ar ((K2.1.length+1)*8≤140737488355328)<|ar (inR .i64 (K2.2.2-1))<|some (.nx (K2.1++[G1],G1,K2.2.2-1)) else some (.br K2.1)
def uH (n:Nat) (d0:List CD) (K1:Int):Option (Lp Int (Sum CD Unit)):=bif decide (K1<(d0.length:Int)) then(qV n d0 K1).bind λX3=>(aq X3 K1).bind λX5=>bif decide (X5<0) then ar (inR .i64 (K1+1))<|some (.nx (K1+1)) else(aq X3 K1).bind λX7=>(av (uI n d0 K1 X3) n ([K1],K1,X7)).bind λG2=>some (.br (.inl G2)) else some (.br (.inr ()))
def oI (n:Nat) (d0:List CD):Option CD:=(lM n d0).bind λX1=>bif !X1 then some ([]:CD) else(av (uH n d0) n (0:Int)).bind λQ1=>(match Q1 with|.inl G3=>some (G3)|.inr G4=>some ([]:CD))
set_option maxRecDepth 20000 in
theorem Cg (n:Nat) (d0:List CD) (z:Zs):oK ([.sli 1 (eL 1 (Dat.int .i64)) (z 0).A (z 0).c d0]) [] 9 [wX (z 0) d0] (oI n d0) (λr y=>⟨(y 1).sl r.length,[rX 3 1 (y 1) r],[qX 1 (Dat.int .i64) (y 1) r]⟩):=
 fn 83 Tryz.func9 (ob (λ_ X2=>br [C (zQ n d0) X2 [0] [] 1] (rt [nr 1 2 3 (tI .i64)] {is:=[2],js:=[1]}) (lp [] {} (λK1 _ _=>{L:=[(3,.int .i64 K1)],ks:=[0]}) (λx z b=>match x with|.inl G3=>{e:=.ret,L:=[(2,(z 1).sl G3.length)],E:=[(23,rX 3 1 (z 1) G3)],F:=[(22,qX 1 (Dat.int .i64) (z 1) G3)]}|.inr G4=>{e:=.exit 0}) (λK1=>br [] (ob (λ_ X4=>ob (λ_ X6=>br [C (ref20_steps_C n d0 K1) X4 [0] [] 1,Re 1 1 2 (tI .i64) X6,X 3,Rd 1 2 0] (nd (λO1=>rt [wr 19 O1])) (ob (λ_ X8=>lp [ao 4,Re 1 1 5 (tI .i64) X8,X 6,Rd 1 5 0,lr 4 7 (tI .i64) [(K1,[])]] {is:=[7],js:=[4]} (λK2 z _=>{L:=[(5,(z 1).sl K2.1.length),(6,.int .i64 K2.2.1),(7,.int .i64 K2.2.2)],ks:=[0,3,4],E:=[(9,rX 3 1 (z 1) K2.1)],x:=[4],F:=[(8,qX 1 (Dat.int .i64) (z 1) K2.1)]}) (λG2 z _=>{e:=.exit 2,L:=[(5,(z 1).sl G2.length)],E:=[(21,rX 3 1 (z 1) G2)],x:=[4],F:=[(20,qX 1 (Dat.int .i64) (z 1) G2)]}) (λK2=>br [] (lp [] {} (λK3 _ _=>{L:=[(8,.int .i64 K3.1),(9,.int .i64 K3.2)],ks:=[0,3,4,5,6,7]}) (λG1 _ _=>{e:=.exit 4,L:=[(8,.int .i64 G1)],ks:=[0,3,4,5,7]}) (λK3=>ob (λ_ X10=>br [I 0 10 (tL 1 (Dat.int .i64)) X10,K 10 0] (ob (λ_ X12=>ob (λ_ X14=>bs [I 0 12 (tL 1 (Dat.int .i64)) X12,K 12 0,I 13 14 (tI .i64) X14,K 14 0] 58 (ob (λ_ X16=>nd (λO2=>bs [Re 1 1 15 (tI .i64) X16,X 16,Rd 1 15 0,wr 64 O2] 67 (bs [] 70 (nd (λO3=>rt [cd true,wr 47 O3])) (br [] (nd (λO4=>rt [wr 47 O4])) (nd (λO5=>rt [wr 47 O5])))) (nd (λO6=>rt [cd false,wr 47 O6]))))) (nd (λO7=>rt [cd false,wr 47 O7]))))) (rt []))) (kA λG1=>nd (λO8=>nd (λO9=>rt [ao 17,lk 17 18 (tI .i64) [(G1,[])],ap (ys:=[G1]) 9 8 18 19 (tI .i64) O8,wr 38 O9] {is:=[19],js:=[9]})))) (rt [] {is:=[8],js:=[9]})) (kA λ_=>rt [] {is:=[20],js:=[21]})))))) (rt [])) (kS (kA λ_=>rt [] {is:=[22],js:=[23]}) (kA λ_=>rt [nr 22 23 3 (tI .i64)] {is:=[23],js:=[22]})))))
open Go.Ck
def ug (n:Nat) (d0:gH) (d1:Bs) (K1:Int×gK):Option (Lp (Int×gK) (Sum gK gK)):=bif decide (K1.1<(d0.aR.length:Int)) then(aq d0.aR K1.1).bind λX1=>bif decide (X1.ci=d1) then(aq d0.aR K1.1).bind λX3=>some (.br (.inl X3)) else ar (inR .i64 (K1.1+1))<|some (.nx (K1.1+1,K1.2)) else some (.br (.inr K1.2))
def jq (n:Nat) (d0:gH) (d1:Bs):Option (gK×Bool):=(av (ug n d0 d1) n ((0:Int),yK)).bind λQ3=>(match Q3 with|.inl G1=>some (G1,(true))|.inr G2=>some (yK,(false)))
theorem we (n:Nat) (d0:gH) (d1:Bs) (z:Zs):oK (ez.facts d0 z) [] 13 [ez.ag d0 z,S d1] (jq n d0 d1) (λr y=>⟨.tuple #[bN.ag r.1 y,.bool r.2],[],bN.facts r.1 y⟩):=
 fn 28 Tryz.func13 (lp [bx 5,al 6,nf 7 8 aj,nf 8 1 Dat.str] {is:=[7,8]} (λK1 z _=>{L:=[(6,.int .i64 K1.1)],ks:=[1,2,4],o:=[(6,.cells (bN.cells K1.2 z).toArray 60 (0,0))],F:=nums 9 (bN.facts K1.2 z)}) (λx z b=>match x with|.inl G1=>{e:=.ret,L:=[(5,.bool true)],ks:=[4],o:=[(6,.cells (bN.cells G1 z).toArray 60 (0,0))],F:=nums 17 (bN.facts G1 z)}|.inr G2=>{e:=.exit 0,ks:=[4],o:=[(6,.cells (bN.cells G2 z).toArray 60 (0,0))],F:=nums 17 (bN.facts G2 z)}) (λK1=>br [K 5 0] (ob (λ_ X2=>br [K 5 0,I 0 11 bN X2,K 11 0] (ob (λ_ X4=>rt [K 5 0,I 0 14 bN X4,K 14 0,Sn 6] {is:=[15,16]})) (nd (λO1=>rt [wr 13 O1] {is:=[9,10]})))) (rt [] {is:=[9,10]})) (kS (kA λ_=>rt [] {is:=[17,18],rk:=[6,0]}) (kA λ_=>rt [Sn 6,nf 19 8 aj,nf 20 1 Dat.str] {is:=[19,20],rk:=[6,0]})))
def uK (n:Nat) (d0:CB) (K1:Int):Option (Lp Int (Sum Unit Unit)):=(bif decide (K1<(d0.length:Int)) then some (decide (K1≤100)) else some (false):Option Bool).bind λG1=>bif G1 then(aq d0 K1).bind λX1=>(mE n X1.bk).bind λX3=>bif X3 then some (.br (.inl ())) else(aq d0 K1).bind λX5=>bif decide ((60:Int)<(X5.bA.length:Int)) then some (.br (.inl ())) else(aq d0 K1).bind λX7=>(aq d0 K1).bind λX9=>ar (inR .i64 ((X7.ci.length:Int)+ (X9.bB.length:Int)))<|(aq d0 K1).bind λX11=>ar (inR .i64 (((X7.ci.length:Int)+ (X9.bB.length:Int))+ (X11.bm.length:Int)))<|bif decide ((2000:Int)<(((X7.ci.length:Int)+ (X9.bB.length:Int))+ (X11.bm.length:Int))) then some (.br (.inl ())) else ar (inR .i64 (K1+1))<|some (.nx (K1+1)) else some (.br (.inr ()))
def jr (n:Nat) (d0:CB):Option Bool:=(av (uK n d0) n (0:Int)).bind λQ1=>(match Q1 with|.inl G2=>some (true)|.inr G3=>some (decide ((100:Int)<(d0.length:Int))))
theorem qk (n:Nat) (d0:CB) (z:Zs):oK ([sX 6 aK (z 0) d0]) [] 44 [wX (z 0) d0] (jr n d0) (λr y=>⟨.bool r,[],[]⟩):=
 fn 55 Tryz.func44 (lp [] {} (λK1 _ _=>{L:=[(3,.int .i64 K1)],ks:=[0]}) (λx z b=>match x with|.inl G2=>{e:=.ret,L:=[(2,.bool true)]}|.inr G3=>{e:=.exit 0,ks:=[0]}) (λK1=>jn (.reg 2) [] (λG1 _ _=>{L:=[(11,.bool G1)],ks:=[0,3]}) (bs [] 8 (rt []) (rt [])) (kA λ_=>br [] (ob (λX1 X2=>ob (λ_ X4=>bh (.reg 4) [Ie 0 1 bN X2] (λB3=>rt [ch [] [(20,⟨cB B3⟩)],X 2,K 1 3,C (mg n X1.bk) X4 [3] [] 5,cd true,cd true,cd true,cd true,cd true,cd true,cd true,cd true,cd true]) (λB3=>ob (λ_ X6=>bh (.reg 4) [Ie 0 5 bN X6] (λB4=>rt [ch [] [(20,⟨cB B3⟩),(29,⟨cB B4⟩)],X 2,K 1 3,C (mg n X1.bk) X4 [3] [] 5,X 6,K 5 5,cd true,cd true,cd true,cd true,cd true,cd true,cd true]) (λB4=>ob (λ_ X8=>ob (λ_ X10=>nd (λO1=>ob (λ_ X12=>nd (λO2=>br [Ie 0 9 bN X8,Ie 0 13 bN X10,Ie 0 17 bN X12,ch [] [(20,⟨cB B3⟩),(29,⟨cB B4⟩),(42,⟨congrArg (Value.int .i64) (cD O1)⟩),(49,⟨congrArg (Value.int .i64) (cD O2)⟩)],X 2,K 1 3,C (mg n X1.bk) X4 [3] [] 5,X 6,K 5 5,X 10,K 9 0,X 14,K 13 1,X 18,K 17 2] (rt []) (nd (λO3=>rt [wr 13 O3]))))))))))))) (rt []))) (kS (kA λ_=>rt []) (kA λ_=>rt [])))
def qY (n:Nat) (d0:gH):Option Bool:=(jr n d0.aR).bind λX1=>bif X1 then some (true) else(jr n d0.cJ).bind λX3=>bif X3 then some (true) else(jr n d0.cM).bind λX5=>bif X5 then some (true) else(mG n d0.bM).bind λX7=>bif X7 then some (true) else(mG n d0.bG).bind λX9=>bif X9 then some (true) else some (decide ((5000:Int)<(d0.be.length:Int)))
theorem ref22_Great_C (n:Nat) (d0:gH) (z:Zs):oK (ez.facts d0 z) [] 20 [ez.ag d0 z] (qY n d0) (λr y=>⟨.bool r,[],[]⟩):=
 fn 32 Tryz.func20 (ob (λ_ X2=>bs [bx 5,K 5 0,C (qk n d0.aR) X2 [0] [] 6] 6 (rt []) (ob (λ_ X4=>bs [K 5 1,C (qk n d0.cJ) X4 [1] [] 6] 11 (rt []) (ob (λ_ X6=>bs [K 5 2,C (qk n d0.cM) X6 [2] [] 6] 16 (rt []) (ob (λ_ X8=>bs [K 5 3,C (wY n d0.bM) X8 [3] [] 6] 21 (rt []) (ob (λ_ X10=>bs [K 5 5,C (wY n d0.bG) X10 [4] [] 6] 26 (rt []) (rt [K 5 4])))))))))))
def mq (n:Nat) (d0:gH) (K1:List Bs×Int):Option (Lp (List Bs×Int) (List Bs)):=bif decide (K1.2<(d0.aR.length:Int)) then(aq d0.aR K1.2).bind λX1=>ar ((K1.1.length+1)*16≤140737488355328)<|ar (inR .i64 (K1.2+1))<|some (.nx (K1.1++[X1.bm],K1.2+1)) else some (.br K1.1)
def mr (n:Nat) (d0:gH) (K2:List Bs×Int):Option (Lp (List Bs×Int) (List Bs)):=bif decide (K2.2<(d0.cJ.length:Int)) then(aq d0.cJ K2.2).bind λX3=>ar ((K2.1.length+1)*16≤140737488355328)<|ar (inR .i64 (K2.2+1))<|some (.nx (K2.1++[X3.bm],K2.2+1)) else some (.br K2.1)
def mt (n:Nat) (d0:gH) (K3:List Bs×Int):Option (Lp (List Bs×Int) (List Bs)):=bif decide (K3.2<(d0.cM.length:Int)) then(aq d0.cM K3.2).bind λX5=>ar ((K3.1.length+1)*16≤140737488355328)<|ar (inR .i64 (K3.2+1))<|some (.nx (K3.1++[X5.bm],K3.2+1)) else some (.br K3.1)
def uf (n:Nat) (d0:gH):Option (List Bs):=(av (mq n d0) n (([]:List Bs),(0:Int))).bind λG1=>(av (mr n d0) n (G1,(0:Int))).bind λG2=>(av (mt n d0) n (G2,(0:Int))).bind λG3=>some (G3)
set_option maxRecDepth 20000 in
theorem ref22_Live_C (n:Nat) (d0:gH) (z:Zs):oK (ez.facts d0 z) [] 95 [ez.ag d0 z] (uf n d0) (λr y=>⟨(y 1).sl r.length,[rX 9 1 (y 1) r],[qX 1 Dat.str (y 1) r]⟩):=
 fn 56 Tryz.func95 (lp [bx 5,nr 6 7 9 tS] {is:=[7],js:=[6]} (λK1 z _=>{L:=[(3,(z 1).sl K1.1.length),(4,.int .i64 K1.2)],ks:=[1],E:=[(9,rX 9 1 (z 1) K1.1)],x:=[6],F:=[(8,qX 1 Dat.str (z 1) K1.1)]}) (λG1 z _=>{e:=.exit 0,L:=[(3,(z 1).sl G1.length)],ks:=[1],E:=[(17,rX 9 1 (z 1) G1)],x:=[6],F:=[(16,qX 1 Dat.str (z 1) G1)]}) (λK1=>br [K 5 0] (ob (λX1 X2=>nd (λO1=>nd (λO2=>rt [K 5 0,I 0 10 bN X2,K 10 2,ao 13,lk 13 14 tS [(X1.bm,[])],ap (ys:=[X1.bm]) 9 8 14 15 tS O1,wr 13 O2] {is:=[15],js:=[9]})))) (rt [] {is:=[8],js:=[9]})) (kA λ_=>lp [] {is:=[16],js:=[17]} (λK2 z _=>{L:=[(3,(z 1).sl K2.1.length),(5,.int .i64 K2.2)],ks:=[1],E:=[(19,rX 9 1 (z 1) K2.1)],x:=[17],F:=[(18,qX 1 Dat.str (z 1) K2.1)]}) (λG2 z _=>{e:=.exit 2,L:=[(3,(z 1).sl G2.length)],ks:=[1],E:=[(27,rX 9 1 (z 1) G2)],x:=[17],F:=[(26,qX 1 Dat.str (z 1) G2)]}) (λK2=>br [K 5 1] (ob (λX3 X4=>nd (λO3=>nd (λO4=>rt [K 5 1,I 1 20 bN X4,K 20 2,ao 23,lk 23 24 tS [(X3.bm,[])],ap (ys:=[X3.bm]) 19 18 24 25 tS O3,wr 29 O4] {is:=[25],js:=[19]})))) (rt [] {is:=[18],js:=[19]})) (kA λ_=>lp [] {is:=[26],js:=[27]} (λK3 z _=>{L:=[(3,(z 1).sl K3.1.length),(6,.int .i64 K3.2)],ks:=[1],E:=[(29,rX 9 1 (z 1) K3.1)],x:=[27],F:=[(28,qX 1 Dat.str (z 1) K3.1)]}) (λG3 z _=>{e:=.exit 4,L:=[(3,(z 1).sl G3.length)],E:=[(37,rX 9 1 (z 1) G3)],x:=[27],F:=[(36,qX 1 Dat.str (z 1) G3)]}) (λK3=>br [K 5 2] (ob (λX5 X6=>nd (λO5=>nd (λO6=>rt [K 5 2,I 2 30 bN X6,K 30 2,ao 33,lk 33 34 tS [(X5.bm,[])],ap (ys:=[X5.bm]) 29 28 34 35 tS O5,wr 45 O6] {is:=[35],js:=[29]})))) (rt [] {is:=[28],js:=[29]})) (kA λ_=>rt [] {is:=[36],js:=[37]}))))
def kP (n:Nat) (d0:gH) (K1:Int):Option (Lp Int (Sum Unit Unit)):=bif decide (K1<(d0.aR.length:Int)) then ar (inR .i64 (K1-1))<|(aq d0.aR (K1-1)).bind λX1=>(aq d0.aR K1).bind λX3=>bif !(Op.bytesLess X1.ci X3.ci) then some (.br (.inl ())) else ar (inR .i64 (K1+1))<|some (.nx (K1+1)) else some (.br (.inr ()))
def kT (n:Nat) (X5:List Bs) (K2:Int) (K3:Int):Option (Lp Int (Sum Unit Unit)):=bif decide (K3<K2) then(aq X5 K3).bind λX7=>(aq X5 K2).bind λX9=>bif decide (X7=X9) then some (.br (.inl ())) else ar (inR .i64 (K3+1))<|some (.nx (K3+1)) else some (.br (.inr ()))
def kQ (n:Nat) (X5:List Bs) (K2:Int):Option (Lp Int (Sum Unit Unit)):=bif decide (K2<(X5.length:Int)) then(av (kT n X5 K2) n (0:Int)).bind λQ4=>(match Q4 with|.inl G3=>some (.br (.inl ()))|.inr G4=>ar (inR .i64 (K2+1))<|some (.nx (K2+1))) else some (.br (.inr ()))
def nc (n:Nat) (d0:gH):Option Int:=(av (kP n d0) n (1:Int)).bind λQ2=>(match Q2 with|.inl G1=>some (2:Int)|.inr G2=>(uf n d0).bind λX5=>(av (kQ n X5) n (0:Int)).bind λQ3=>(match Q3 with|.inl G5=>some (2:Int)|.inr G6=>bif decide (d0.oY<0) then some (2:Int) else bif decide ((1099511627776:Int)<d0.oY) then some (2:Int) else bif decide (d0.cm<0) then some (2:Int) else bif decide ((6:Int)<d0.cm) then some (2:Int) else some (0:Int)))
theorem xk (n:Nat) (d0:gH) (z:Zs):oK (ez.facts d0 z) [] 46 [ez.ag d0 z] (nc n d0) (λr y=>⟨.int .i64 r,[],[]⟩):=
 fn 68 Tryz.func46 (lp [bx 5] {} (λK1 _ _=>{L:=[(3,.int .i64 K1)],ks:=[1]}) (λx z b=>match x with|.inl G1=>{e:=.ret,L:=[(2,.int .i64 2)]}|.inr G2=>{e:=.exit 0,ks:=[1]}) (λK1=>br [K 5 0] (nd (λO1=>ob (λ_ X2=>ob (λ_ X4=>br [Ie 0 6 bN X2,Ie 0 10 bN X4,ch [] [(17,⟨congrArg (Value.int .i64) (cD O1)⟩)],K 5 0,X 7,K 6 0,K 5 0,X 11,K 10 0] (rt []) (nd (λO2=>rt [wr 13 O2])))))) (rt [])) (kS (kA λ_=>rt []) (kA λ_=>ob (λ_ X6=>lp [K 5 0,C (ref22_Live_C n d0) X6 [0,1,2,3,4] [] 14] {} (λK2 _ _=>{L:=[(5,.int .i64 K2)],ks:=[1,4]}) (λx z b=>match x with|.inl G5=>{e:=.ret,L:=[(2,.int .i64 2)]}|.inr G6=>{e:=.exit 2,ks:=[1]}) (λK2=>br [] (lp [] {} (λK3 _ _=>{L:=[(6,.int .i64 K3)],ks:=[1,4,5]}) (λx z b=>match x with|.inl G3=>{e:=.ret,L:=[(2,.int .i64 2)]}|.inr G4=>{e:=.exit 4,ks:=[1,4,5]}) (λK3=>br [] (ob (λ_ X8=>ob (λ_ X10=>br [Re 14 14 15 tS X8,Re 14 14 17 tS X10,X 16,Rd 14 15 0,X 18,Rd 14 17 0] (rt []) (nd (λO3=>rt [wr 40 O3]))))) (rt [])) (kS (kA λ_=>rt []) (kA λ_=>nd (λO4=>rt [wr 35 O4])))) (rt [])) (kS (kA λ_=>rt []) (kA λ_=>bs [K 5 6] 53 (rt [cd true]) (bs [K 5 6] 58 (rt [cd true]) (bs [K 5 7] 63 (rt [cd true]) (br [K 5 7] (rt []) (rt []))))))))))
open Go.Ck
def ql (n:Nat) (d0:gH) (d1:Bs) (K1:Int×gK):Option (Lp (Int×gK) (Sum gK gK)):=bif decide (K1.1<(d0.aR.length:Int)) then(aq d0.aR K1.1).bind λX1=>bif decide (X1.ci=d1) then(aq d0.aR K1.1).bind λX3=>some (.br (.inl X3)) else ar (inR .i64 (K1.1+1))<|some (.nx (K1.1+1,K1.2)) else some (.br (.inr K1.2))
def gq (n:Nat) (d0:gH) (d1:Bs):Option (gK×Bool):=(av (ql n d0 d1) n ((0:Int),yK)).bind λQ3=>(match Q3 with|.inl G1=>some (G1,(true))|.inr G2=>some (yK,(false)))
theorem rW (n:Nat) (d0:gH) (d1:Bs) (z:Zs):oK (ez.facts d0 z) [] 28 [ez.ag d0 z,S d1] (gq n d0 d1) (λr y=>⟨.tuple #[bN.ag r.1 y,.bool r.2],[],bN.facts r.1 y⟩):=
 fn 28 Tryz.func28 (lp [bx 5,al 6,nf 7 8 aj,nf 8 1 Dat.str] {is:=[7,8]} (λK1 z _=>{L:=[(6,.int .i64 K1.1)],ks:=[1,2,4],o:=[(6,.cells (bN.cells K1.2 z).toArray 60 (0,0))],F:=nums 9 (bN.facts K1.2 z)}) (λx z b=>match x with|.inl G1=>{e:=.ret,L:=[(5,.bool true)],ks:=[4],o:=[(6,.cells (bN.cells G1 z).toArray 60 (0,0))],F:=nums 17 (bN.facts G1 z)}|.inr G2=>{e:=.exit 0,ks:=[4],o:=[(6,.cells (bN.cells G2 z).toArray 60 (0,0))],F:=nums 17 (bN.facts G2 z)}) (λK1=>br [K 5 0] (ob (λ_ X2=>br [K 5 0,I 0 11 bN X2,K 11 0] (ob (λ_ X4=>rt [K 5 0,I 0 14 bN X4,K 14 0,Sn 6] {is:=[15,16]})) (nd (λO1=>rt [wr 13 O1] {is:=[9,10]})))) (rt [] {is:=[9,10]})) (kS (kA λ_=>rt [] {is:=[17,18],rk:=[6,0]}) (kA λ_=>rt [Sn 6,nf 19 8 aj,nf 20 1 Dat.str] {is:=[19,20],rk:=[6,0]})))
def yD (n:Nat) (d0:Cp) (d1:Bs) (K1:Int):Option (Lp Int Int):=bif decide (K1<(d0.length:Int)) then(aq d0 K1).bind λX1=>bif Op.bytesLess X1.aE d1 then ar (inR .i64 (K1+1))<|some (.nx (K1+1)) else some (.br K1) else some (.br K1)
def lN (n:Nat) (d0:Cp) (d1:Bs) (d2:Bs):Option Cp:=(av (yD n d0 d1) n (0:Int)).bind λG1=>ar (0≤G1∧G1≤(d0.length:Int))<|ar ((([]:Cp).length+ (d0.drop G1.toNat).length)*104≤140737488355328)<|ar (0≤G1∧G1≤(d0.length:Int))<|ar ((([]:Cp).length+ ((d0.take G1.toNat).drop 0).length)*104≤140737488355328)<|ar (((([]:Cp)++((d0.take G1.toNat).drop 0)).length+1)*104≤140737488355328)<|ar ((((([]:Cp)++((d0.take G1.toNat).drop 0))++[(⟨d1,(false),(⟨(3:Int),(false),(0:Int),d2,([]:Cz),([]:List Bs)⟩:bz)⟩:aG)]).length+ (([]:Cp)++(d0.drop G1.toNat)).length)*104≤140737488355328)<|some (((([]:Cp)++((d0.take G1.toNat).drop 0))++[(⟨d1,(false),(⟨(3:Int),(false),(0:Int),d2,([]:Cz),([]:List Bs)⟩:bz)⟩:aG)])++(([]:Cp)++(d0.drop G1.toNat)))
theorem qZ (n:Nat) (d0:Cp) (d1:Bs) (d2:Bs) (z:Zs):oK ([sX 8 aj (z 0) d0]) [] 56 [wX (z 0) d0,S d1,S d2] (lN n d0 d1 d2) (λr y=>⟨(y 1).sl r.length,[rX 186 8 (y 1) r],[qX 8 aj (y 1) r]⟩):=
 fn 45 Tryz.func56 (lp [] {} (λK1 _ _=>{L:=[(7,.int .i64 K1)],ks:=[0,1,2]}) (λG1 _ _=>{e:=.exit 0,L:=[(7,.int .i64 G1)],ks:=[0,1,2]}) (λK1=>bs [] 14 (ob (λ_ X2=>br [I 0 1 bc X2,K 1 0] (nd (λO1=>rt [wr 24 O1])) (rt []))) (rt [cd false])) (kA λ_=>nd (λO2=>nd (λO3=>nd (λO4=>nd (λO5=>nd (λO6=>nd (λO7=>rt [cF 0 4 bc O2,nr 5 6 186 bc,ap 5 6 4 7 bc O3,ao 8,cG 0 9 bc O4,lr 8 10 bc [],ap 8 10 9 11 bc O5,ao 12,nf 13 6 aw,nf 14 1 Dat.str,lk 12 15 bc [((⟨d1,(false),(⟨(3:Int),(false),(0:Int),d2,([]:Cz),([]:List Bs)⟩:bz)⟩:aG),[13,14])],ap (ys:=[(⟨d1,(false),(⟨(3:Int),(false),(0:Int),d2,([]:Cz),([]:List Bs)⟩:bz)⟩:aG)]) 8 11 15 16 bc O6,ri 5 7 17,ap 8 16 17 18 bc O7] {is:=[18],js:=[8]}))))))))
def rY (n:Nat) (d0:gK):Option cV:=some (⟨d0.ci,(4:Int),d0.bB,d0.bk,(d0.bV),(-1:Int),(true),d0.bA⟩:cV)
theorem uL (n:Nat) (d0:gK) (z:Zs):oK (bN.facts d0 z) [] 47 [bN.ag d0 z] (rY n d0) (λr y=>⟨dk.ag r y,[],dk.facts r y⟩):=
 fn 14 Tryz.func47 (rt [bx 2,al 3,K 2 0,K 2 1,K 2 3,K 2 4,K 2 5,Sn 3] {is:=[0,1],rk:=[3]})
def xq (n:Nat) (d0:gH) (d1:List Bs) (K1:Cv×Int) (K2:Bool×Int):Option (Lp (Bool×Int) Bool):=bif decide (K2.2<(d1.length:Int)) then bif K2.1 then ar (inR .i64 (K2.2+1))<|some (.nx ((true),K2.2+1)) else(aq d1 K2.2).bind λX1=>(aq d0.aR K1.2).bind λX3=>ar (inR .i64 (K2.2+1))<|some (.nx ((decide (X1=X3.ci)),K2.2+1)) else some (.br (K2.1))
def xp (n:Nat) (d0:gH) (d1:List Bs) (K1:Cv×Int):Option (Lp (Cv×Int) Cv):=bif decide (K1.2<(d0.aR.length:Int)) then(av (xq n d0 d1 K1) n ((false),(0:Int))).bind λG1=>bif !G1 then(aq d0.aR K1.2).bind λX5=>(rY n X5).bind λX7=>ar ((K1.1.length+1)*112≤140737488355328)<|ar (inR .i64 (K1.2+1))<|some (.nx (K1.1++[X7],K1.2+1)) else ar (inR .i64 (K1.2+1))<|some (.nx (K1.1,K1.2+1)) else some (.br K1.1)
def uj (n:Nat) (d0:gH) (d1:List Bs):Option Cv:=(av (xp n d0 d1) n (([]:Cv),(0:Int))).bind λG2=>some (G2)
theorem ref23_rest_C (n:Nat) (d0:gH) (d1:List Bs) (z:Zs):oK (ez.facts d0 z++[sX 1 Dat.str (z 5) d1]) [] 59 [ez.ag d0 z,wX (z 5) d1] (uj n d0 d1) (λr y=>⟨(y 1).sl r.length,[rX 64 8 (y 1) r],[qX 8 bi (y 1) r]⟩):=
 fn 48 Tryz.func59 (lp [bx 6,nr 7 8 64 dk] {is:=[8],js:=[7]} (λK1 z _=>{L:=[(5,(z 1).sl K1.1.length),(6,.int .i64 K1.2)],ks:=[1,2],E:=[(10,rX 64 8 (z 1) K1.1)],x:=[7],F:=[(9,qX 8 bi (z 1) K1.1)]}) (λG2 z _=>{e:=.exit 0,L:=[(5,(z 1).sl G2.length)],E:=[(26,rX 64 8 (z 1) G2)],x:=[7],F:=[(25,qX 8 bi (z 1) G2)]}) (λK1=>br [K 6 0] (lp [] {} (λK2 _ _=>{L:=[(7,.bool K2.1),(8,.int .i64 K2.2)],ks:=[1,2,5,6]}) (λG1 _ _=>{e:=.exit 2,L:=[(7,.bool G1)],ks:=[1,2,5,6]}) (λK2=>br [] (bh (.reg 9) [] (λB3=>nd (λO1=>rt [ch [] [(23,⟨cB B3⟩)],cd true,cd true,cd true,cd true,cd true,wr 21 O1])) (λB3=>ob (λ_ X2=>ob (λ_ X4=>nd (λO2=>rt [Ie 5 11 tS X2,Ie 0 13 bN X4,ch [] [(23,⟨cB B3⟩)],X 12,K 11 0,K 6 0,X 14,K 13 0,wr 21 O2]))))) (rt [])) (kA λ_=>br [] (ob (λX5 X6=>ob (λX7 X8=>nd (λO3=>nd (λO4=>rt [K 6 0,I 0 17 bN X6,K 17 0,C (uL n X5) X8 [18,19] [] 20,ao 22,lk 22 23 dk [(X7,[20,21])],ap (ys:=[X7]) 10 9 23 24 dk O3,wr 15 O4] {is:=[24],js:=[10]}))))) (nd (λO5=>rt [wr 15 O5] {is:=[9],js:=[10]})))) (rt [] {is:=[9],js:=[10]})) (kA λ_=>rt [] {is:=[25],js:=[26]}))
def gE (n:Nat) (d0:Cv) (d1:Bs) (K1:Int):Option (Lp Int (Sum Int Unit)):=bif decide (K1<(d0.length:Int)) then(aq d0 K1).bind λX1=>bif decide (X1.ci=d1) then some (.br (.inl K1)) else ar (inR .i64 (K1+1))<|some (.nx (K1+1)) else some (.br (.inr ()))
def kc (n:Nat) (d0:Cv) (d1:Bs):Option (Int×Bool):=(av (gE n d0 d1) n (0:Int)).bind λQ1=>(match Q1 with|.inl G1=>some (G1,(true))|.inr G2=>some ((0:Int),(false)))
theorem ref23_Find_C (n:Nat) (d0:Cv) (d1:Bs) (z:Zs):oK ([sX 8 bi (z 0) d0]) [] 29 [wX (z 0) d0,S d1] (kc n d0 d1) (λr y=>⟨.tuple #[.int .i64 r.1,.bool r.2],[],[]⟩):=
 fn 21 Tryz.func29 (lp [] {} (λK1 _ _=>{L:=[(6,.int .i64 K1)],ks:=[0,1]}) (λx z b=>match x with|.inl G1=>{e:=.ret,L:=[(4,.int .i64 G1),(5,.bool true)]}|.inr G2=>{e:=.exit 0}) (λK1=>br [] (ob (λ_ X2=>br [I 0 1 dk X2,K 1 0] (rt []) (nd (λO1=>rt [wr 12 O1])))) (rt [])) (kS (kA λ_=>rt []) (kA λ_=>rt [])))
def eN (n:Nat) (d0:bH) (G2:List Bs) (K2:CE×Int):Option (Lp (CE×Int) CE):=bif decide (K2.2<(G2.length:Int)) then(aq G2 K2.2).bind λX7=>(kc n d0.am X7).bind λX9=>bif X9.2 then(aq K2.1 X9.1).bind λX11=>ar (inR .i64 (K2.2+1))<|some (.nx (K2.1.set X9.1.toNat (true),K2.2+1)) else ar (inR .i64 (K2.2+1))<|some (.nx (K2.1,K2.2+1)) else some (.br K2.1)
def kU (n:Nat) (G3:CE) (K3:CD×Int):Option (Lp (CD×Int) CD):=bif decide (K3.2<(G3.length:Int)) then(aq G3 K3.2).bind λX13=>bif X13 then ar ((K3.1.length+1)*8≤140737488355328)<|ar (inR .i64 (K3.2+1))<|some (.nx (K3.1++[K3.2],K3.2+1)) else ar (inR .i64 (K3.2+1))<|some (.nx (K3.1,K3.2+1)) else some (.br K3.1)
def eM (n:Nat) (d0:bH) (d1:Bool) (K1:List CD×Int):Option (Lp (List CD×Int) (List CD)):=bif decide (K1.2<(d0.am.length:Int)) then(aq d0.am K1.2).bind λX1=>(bif d1 then((aq d0.am K1.2).bind λX3=>(gq n d0.bI X3.ci).bind λX5=>some (X5.1):Option gK).bind λG1=>some (G1.bA) else some (X1.bA):Option (List Bs)).bind λG2=>ar (0≤(d0.am.length:Int)∧(d0.am.length:Int)*1≤140737488355328∧(d0.am.length:Int)≤140737488355328)<|(av (eN n d0 G2) n (List.replicate (d0.am.length:Int).toNat (false:Bool),(0:Int))).bind λG3=>(av (kU n G3) n (([]:CD),(0:Int))).bind λG4=>ar ((K1.1.length+1)*24≤140737488355328)<|ar (inR .i64 (K1.2+1))<|some (.nx (K1.1++[G4],K1.2+1)) else some (.br K1.1)
def gp (n:Nat) (d0:bH) (d1:Bool):Option (List CD):=(av (eM n d0 d1) n (([]:List CD),(0:Int))).bind λG5=>some (G5)
set_option maxRecDepth 20000 in
theorem rV (n:Nat) (d0:bH) (d1:Bool) (z:Zs):oK (bn.facts d0 z) [] 8 [bn.ag d0 z,.bool d1] (gp n d0 d1) (λr y=>⟨(y 1).sl r.length,[rX 47 1 (y 1) r],[.seq 1 (eL 1 (Dat.int .i64)) r (y 1).k]⟩):=
 fn 87 Tryz.func8 (lp [bx 10,nr 11 12 47 (tL 1 (Dat.int .i64))] {is:=[12],js:=[11]} (λK1 z _=>{L:=[(5,(z 1).sl K1.1.length),(6,.int .i64 K1.2)],ks:=[1,2],E:=[(14,rX 47 1 (z 1) K1.1)],x:=[11],F:=[(13,.seq 1 (eL 1 (Dat.int .i64)) K1.1 (z 1).k)]}) (λG5 z _=>{e:=.exit 0,L:=[(5,(z 1).sl G5.length)],E:=[(56,rX 47 1 (z 1) G5)],x:=[11],F:=[(55,.seq 1 (eL 1 (Dat.int .i64)) G5 (z 1).k)]}) (λK1=>br [K 10 14] (ob (λ_ X2=>jn .no [K 10 14,I 8 15 dk X2,K 15 7] (λG2 z _=>{L:=[(7,(z 0).sl G2.length)],ks:=[1,2,5,6],F:=[(28,sX 1 Dat.str (z 0) G2)]}) (br [] (jn (.reg 7) [] (λG1 z _=>{L:=[(8,.pointer (some (z 0).ad))],ks:=[1,2,5,6],F:=[(25,.kn (z 0).ad (bN.cells G1 (sh 1 z)))]++nums 26 (bN.facts G1 (sh 1 z))}) (ob (λX3 X4=>ob (λ_ X6=>rt [Ie 8 18 dk X4,K 10 2,K 10 14,X 19,K 18 0,C (rW n d0.bI X3.ci) X6 [0,1,2,3,4] [] 22,al 24,Sn 24,fz 24 25] {is:=[25,22,23]}))) (kA λ_=>rt [K 25 5] {is:=[27]})) (rt [] {is:=[17]})) (kA λ_=>nd (λO1=>lp [K 10 14,ms 29 30 tB (false:Bool) O1] {is:=[30],js:=[29]} (λK2 z _=>{L:=[(10,(z 1).sl K2.1.length),(11,.int .i64 K2.2)],ks:=[1,2,5,6,7],E:=[(32,rX 4 1 (z 1) K2.1)],x:=[29],F:=[(31,qX 1 Dat.bool (z 1) K2.1)]}) (λG3 z _=>{e:=.exit 2,L:=[(10,(z 1).sl G3.length)],ks:=[1,2,5,6],E:=[(39,rX 4 1 (z 1) G3)],x:=[29],F:=[(38,qX 1 Dat.bool (z 1) G3)]}) (λK2=>br [] (ob (λX7 X8=>ob (λ_ X10=>br [Ie 28 33 tS X8,K 10 14,X 34,K 33 0,C (ref23_Find_C n d0.am X7) X10 [8] [] 35] (ob (λ_ X12=>nd (λO2=>rt [Re 32 31 35 tB X12,X 36,Sr1 32 31 36 37 tB X12 (true) [] [10,65],wr 53 O2] {is:=[37],js:=[32]}))) (nd (λO3=>rt [wr 53 O3] {is:=[31],js:=[32]}))))) (rt [] {is:=[31],js:=[32]})) (kA λ_=>lp [nr 40 41 3 (tI .i64)] {is:=[41],js:=[40]} (λK3 z _=>{L:=[(14,(z 1).sl K3.1.length),(15,.int .i64 K3.2)],ks:=[1,2,5,6,10],E:=[(43,rX 3 1 (z 1) K3.1)],x:=[40],F:=[(42,qX 1 (Dat.int .i64) (z 1) K3.1)]}) (λG4 z _=>{e:=.exit 4,L:=[(14,(z 1).sl G4.length)],ks:=[1,2,5,6],E:=[(50,rX 3 1 (z 1) G4)],x:=[40],F:=[(49,qX 1 (Dat.int .i64) (z 1) G4)]}) (λK3=>br [] (ob (λ_ X14=>br [Re 39 38 44 tB X14,X 45,Rd 39 44 0] (nd (λO4=>nd (λO5=>rt [ao 46,lk 46 47 (tI .i64) [(K3.2,[])],ap (ys:=[K3.2]) 43 42 47 48 (tI .i64) O4,wr 73 O5] {is:=[48],js:=[43]}))) (nd (λO6=>rt [wr 73 O6] {is:=[42],js:=[43]})))) (rt [] {is:=[42],js:=[43]})) (kA λG4=>nd (λO7=>nd (λO8=>rt [ao 51,ri 50 49 52,lk 51 53 (tL 1 (Dat.int .i64)) [(G4,[52])],ap (ys:=[G4]) 14 13 53 54 (tL 1 (Dat.int .i64)) O7,wr 22 O8] {is:=[54],js:=[14]})))))))) (rt [] {is:=[13],js:=[14]})) (kA λ_=>rt [] {is:=[55],js:=[56]}))
def yC (n:Nat) (d0:bH) (K1:Cp×Int) (X1:cV) (K2:Cp×Int):Option (Lp (Cp×Int) Cp):=bif decide (K2.2<(d0.an.length:Int)) then(aq d0.an K2.2).bind λX7=>(bif decide (X7.aX=K1.2) then bif decide (X7.aJ=0) then some (decide (X7.bW=1)) else some (false) else some (false):Option Bool).bind λG3=>bif G3 then(lN n K2.1 X1.ci X7.bm).bind λX9=>ar (inR .i64 (K2.2+1))<|some (.nx (X9,K2.2+1)) else ar (inR .i64 (K2.2+1))<|some (.nx (K2.1,K2.2+1)) else some (.br K2.1)
def yB (n:Nat) (d0:bH) (K1:Cp×Int):Option (Lp (Cp×Int) Cp):=bif decide (K1.2<(d0.am.length:Int)) then(aq d0.am K1.2).bind λX1=>(bif decide (X1.aA=0) then some (decide (X1.aA=0)) else some (decide (X1.aA=2)):Option Bool).bind λG1=>bif G1 then(gq n d0.bI X1.ci).bind λX3=>(lN n K1.1 X1.ci X3.1.bm).bind λX5=>ar (inR .i64 (K1.2+1))<|some (.nx (X5,K1.2+1)) else(bif decide (X1.aA=1) then some (decide (X1.aA=1)) else some (decide (X1.aA=3)):Option Bool).bind λG2=>bif G2 then(av (yC n d0 K1 X1) n (K1.1,(0:Int))).bind λG4=>ar (inR .i64 (K1.2+1))<|some (.nx (G4,K1.2+1)) else ar (inR .i64 (K1.2+1))<|some (.nx (K1.1,K1.2+1)) else some (.br K1.1)
def wC (n:Nat) (d0:bH):Option Cp:=(av (yB n d0) n (([]:Cp),(0:Int))).bind λG5=>some (G5)
set_option maxRecDepth 20000 in
theorem ref23_Ids_C (n:Nat) (d0:bH) (z:Zs):oK (bn.facts d0 z) [] 70 [bn.ag d0 z] (wC n d0) (λr y=>⟨(y 1).sl r.length,[rX 186 8 (y 1) r],[qX 8 aj (y 1) r]⟩):=
 fn 77 Tryz.func70 (lp [bx 10,nr 11 12 186 bc] {is:=[12],js:=[11]} (λK1 z _=>{L:=[(3,(z 1).sl K1.1.length),(4,.int .i64 K1.2)],ks:=[1],E:=[(14,rX 186 8 (z 1) K1.1)],x:=[11],F:=[(13,qX 8 aj (z 1) K1.1)]}) (λG5 z _=>{e:=.exit 0,L:=[(3,(z 1).sl G5.length)],E:=[(29,rX 186 8 (z 1) G5)],x:=[11],F:=[(28,qX 8 aj (z 1) G5)]}) (λK1=>br [K 10 14] (ob (λX1 X2=>jn .no [K 10 14,I 8 15 dk X2,K 15 0,al 18,Sn 18,O 18] (λG1 _ _=>{L:=[(24,.bool G1)],ks:=[1,3,4,5,23]}) (br [] (rt []) (rt [])) (kA λ_=>br [] (ob (λX3 X4=>ob (λ_ X6=>nd (λO1=>rt [K 10 2,O 18,C (rW n d0.bI X1.ci) X4 [0,1,2,3,4] [] 19,al 21,Sn 21,O 18,O 21,ri 14 13 22,C (qZ n K1.1 X1.ci X3.1.bm) X6 [22] [] 23,wr 16 O1] {is:=[23],js:=[23]})))) (jn .no [] (λG2 _ _=>{L:=[(41,.bool G2)],ks:=[1,3,4,5]}) (br [] (rt []) (rt [])) (kA λ_=>br [] (lp [] {is:=[13],js:=[14]} (λK2 z _=>{L:=[(3,(z 1).sl K2.1.length),(8,.int .i64 K2.2)],ks:=[1,4,5],E:=[(20,rX 186 8 (z 1) K2.1)],x:=[14],F:=[(19,qX 8 aj (z 1) K2.1)]}) (λG4 z _=>{e:=.exit 3,L:=[(3,(z 1).sl G4.length)],ks:=[1,4],E:=[(27,rX 186 8 (z 1) G4)],x:=[14],F:=[(26,qX 8 aj (z 1) G4)]}) (λK2=>br [K 10 15] (ob (λX7 X8=>jn (.reg 17) [K 10 15,I 9 21 cx X8,K 21 0,al 23,Sn 23] (λG3 _ _=>{L:=[(69,.bool G3)],ks:=[1,3,4,5,8,9]}) (bs [O 23] 60 (bs [O 23] 65 (rt [O 23]) (rt [])) (rt [])) (kA λ_=>br [] (ob (λ_ X10=>nd (λO2=>rt [O 18,O 23,ri 20 19 24,C (qZ n K2.1 X1.ci X7.bm) X10 [24] [] 25,wr 50 O2] {is:=[25],js:=[25]}))) (nd (λO3=>rt [wr 50 O3] {is:=[19],js:=[20]}))))) (rt [] {is:=[19],js:=[20]})) (kA λ_=>nd (λO4=>rt [wr 16 O4] {is:=[26],js:=[27]}))) (nd (λO5=>rt [wr 16 O5] {is:=[13],js:=[14]}))))))) (rt [] {is:=[13],js:=[14]})) (kA λ_=>rt [] {is:=[28],js:=[29]}))
open Go.Ck
def xn (n:Nat) (d0:ey) (d3:CE) (K1:Cp×Int):Option (Lp (Cp×Int) Cp):=bif decide (K1.2<(d0.aU.length:Int)) then(aq d0.aU K1.2).bind λX1=>(vN n K1.1 X1.ci).bind λX3=>((aq d3 K1.2).bind λX5=>bif X5 then some (!X3.2) else some (false):Option Bool).bind λG1=>bif G1 then(aq d0.aU K1.2).bind λX7=>(lN n K1.1 X7.ci [112,49,48,57,57,53,49,49,54,50,55,55,55,54]).bind λX9=>ar (inR .i64 (K1.2+1))<|some (.nx (X9,K1.2+1)) else ar (inR .i64 (K1.2+1))<|some (.nx (K1.1,K1.2+1)) else some (.br K1.1)
def xo (n:Nat) (X11:Cp×Bs×Int) (K2:Int):Option (Lp Int (Sum Unit Unit)):=bif decide (K2<(X11.1.length:Int)) then(aq X11.1 K2).bind λX13=>(wv n X13.fV).bind λX15=>(aq X11.1 K2).bind λX17=>bif !X17.dw then bif decide (X15=0) then some (.br (.inl ())) else bif decide ((4096:Int)<X15) then some (.br (.inl ())) else ar (inR .i64 (K2+1))<|some (.nx (K2+1)) else ar (inR .i64 (K2+1))<|some (.nx (K2+1)) else some (.br (.inr ()))
def ui (n:Nat) (d0:ey) (d1:Cp) (d2:Cp) (d3:CE):Option Bool:=(av (xn n d0 d3) n (d2,(0:Int))).bind λG2=>(jH n d0 d1 G2).bind λX11=>(av (xo n X11) n (0:Int)).bind λQ3=>(match Q3 with|.inl G3=>some (true)|.inr G4=>some (false))
theorem ref23_long_C (n:Nat) (d0:ey) (d1:Cp) (d2:Cp) (d3:CE) (z:Zs):oK (dt.facts d0 z++[sX 8 aj (z 2) d1]++[sX 8 aj (z 3) d2]++[sX 1 Dat.bool (z 4) d3]) [] 58 [dt.ag d0 z,wX (z 2) d1,wX (z 3) d2,wX (z 4) d3] (ui n d0 d1 d2 d3) (λr y=>⟨.bool r,[],[]⟩):=
 fn 85 Tryz.func58 (lp [bx 5] {is:=[3]} (λK1 z _=>{L:=[(2,(z 0).sl K1.1.length),(9,.int .i64 K1.2)],ks:=[1,3,4],F:=[(6,sX 8 aj (z 0) K1.1)]}) (λG2 z _=>{e:=.exit 0,L:=[(2,(z 0).sl G2.length)],ks:=[1,4],F:=[(21,sX 8 aj (z 0) G2)]}) (λK1=>br [K 5 1] (ob (λX1 X2=>ob (λ_ X4=>jn (.reg 5) [K 5 1,I 1 7 iy X2,K 7 0,C (Ce n K1.1 X1.ci) X4 [6] [] 13] (λG1 _ _=>{L:=[(42,.bool G1)],ks:=[1,2,3,4,9]}) (ob (λ_ X6=>bs [I 4 13 tB X6,K 13 0] 39 (rt []) (rt []))) (kA λ_=>br [] (ob (λX7 X8=>ob (λ_ X10=>nd (λO1=>rt [K 5 1,I 1 14 iy X8,K 14 0,C (qZ n K1.1 X7.ci [112,49,48,57,57,53,49,49,54,50,55,55,55,54]) X10 [6] [] 20,wr 23 O1,ri 20 20 21] {is:=[21]})))) (nd (λO2=>rt [wr 23 O2] {is:=[6]})))))) (rt [] {is:=[6]})) (kA λG2=>ob (λ_ X12=>lp [K 5 0,C (uF n d0 d1 G2) X12 [0,1,2,21] [] 22] {} (λK2 _ _=>{L:=[(15,.int .i64 K2)],ks:=[12]}) (λx z b=>match x with|.inl G3=>{e:=.ret,L:=[(8,.bool true)]}|.inr G4=>{e:=.exit 2}) (λK2=>br [] (ob (λX13 X14=>ob (λ_ X16=>ob (λ_ X18=>bs [Re 22 22 23 bc X14,X 24,Rd 22 23 2,C (ref05_Len_C n X13.fV) X16 [25,26] [] 27,Re 22 22 27 bc X18,X 28,Rd 22 27 1] 77 (bs [] 80 (rt [cd true]) (br [] (rt []) (nd (λO3=>rt [wr 64 O3])))) (nd (λO4=>rt [cd false,wr 64 O4])))))) (rt [])) (kS (kA λ_=>rt []) (kA λ_=>rt [])))))
def rT (n:Nat) (d0:ey) (d1:Cp) (d2:Cp) (d3:Int):Option (Cp×Bs×Int):=(mQ n d0 d1 d2 d3 (true)).bind λX1=>some (X1.1,X1.2.1,X1.2.2)
theorem Az (n:Nat) (d0:ey) (d1:Cp) (d2:Cp) (d3:Int) (z:Zs):oK (dt.facts d0 z++[sX 8 aj (z 2) d1]++[sX 8 aj (z 3) d2]) [] 112 [dt.ag d0 z,wX (z 2) d1,wX (z 3) d2,.int .i64 d3] (rT n d0 d1 d2 d3) (λr y=>⟨.tuple #[wX (y 1) r.1,S r.2.1,.int .i64 r.2.2],[rX 186 8 (y 1) r.1],[qX 8 aj (y 1) r.1]⟩):=
 fn 19 Tryz.func112 (ob (λ_ X2=>rt [bx 4,K 4 0,C (xj n d0 d1 d2 d3 (true)) X2 [0,1,2,3] [] 5] {is:=[5],js:=[5]}))
def mu (n:Nat) (d0:ey) (d1:Cp) (d2:Cp) (d3:Int):Option (Cp×Int):=(mO n d0 d1 d2 d3).bind λX1=>bif !(decide (X1.2.2=0)) then some (([]:Cp),X1.2.2) else(rT n d0 d1 d2 d3).bind λX3=>bif !(decide (X3.2.2=0)) then some (([]:Cp),X3.2.2) else(aq d0.aU d3).bind λX5=>(iP n X5.fR.bB X1.1).bind λX7=>bif !(decide (X7=0)) then some (([]:Cp),X7) else(iP n X5.fR.bB X3.1).bind λX9=>some (X1.1,X9)
theorem AC (n:Nat) (d0:ey) (d1:Cp) (d2:Cp) (d3:Int) (z:Zs):oK (dt.facts d0 z++[sX 8 aj (z 2) d1]++[sX 8 aj (z 3) d2]) [] 54 [dt.ag d0 z,wX (z 2) d1,wX (z 3) d2,.int .i64 d3] (mu n d0 d1 d2 d3) (λr y=>⟨.tuple #[wX (y 1) r.1,.int .i64 r.2],[rX 186 8 (y 1) r.1],[qX 8 aj (y 1) r.1]⟩):=
 fn 57 Tryz.func54 (ob (λX1 X2=>br [bx 4,K 4 0,C (xh n d0 d1 d2 d3) X2 [0,1,2,3] [] 5] (rt [nr 6 7 186 bc] {is:=[7],js:=[6]}) (ob (λX3 X4=>br [K 4 0,C (Az n d0 d1 d2 d3) X4 [0,1,2,3] [] 6] (rt [nr 7 8 186 bc] {is:=[8],js:=[7]}) (ob (λX5 X6=>ob (λ_ X8=>br [K 4 1,I 1 7 iy X6,K 7 3,CL (mf n X5.fR.bB X1.1) X8 [13] [(5,5,13)]] (rt [nr 14 15 186 bc] {is:=[15],js:=[14]}) (ob (λ_ X10=>rt [CL (mf n X5.fR.bB X3.1) X10 [14] [(6,6,14)]] {is:=[5],js:=[5]})))))))))
open Go.Ck
def xl (n:Nat) (d1:gH) (K1:Int×Cv):Option (Lp (Int×Cv) Cv):=bif decide (K1.1<(d1.aR.length:Int)) then((aq d1.aR K1.1).bind λX3=>(rY n X3).bind λX5=>ar ((K1.2.length+1)*112≤140737488355328)<|some (K1.2++[X5]):Option Cv).bind λG2=>ar (inR .i64 (K1.1+1))<|some (.nx (K1.1+1,G2)) else some (.br K1.2)
def xm (n:Nat) (d1:gH) (d4:Cp) (X10:ey×Int) (X14:CD×Int) (X16:CE×Int) (X18:List (List Bs)) (K2:Cp×List Bs×Int×Cv):Option (Lp (Cp×List Bs×Int×Cv) (Sum (Int×Cv) (Cp×List Bs×Cv))):=bif decide (K2.2.2.1<(X14.1.length:Int)) then(aq X14.1 K2.2.2.1).bind λX20=>(aq X16.1 X20).bind λX22=>bif !X22 then ar (inR .i64 (K2.2.2.1+1))<|some (.nx (K2.1,K2.2.1,K2.2.2.1+1,K2.2.2.2)) else(aq X10.1.aU X20).bind λX24=>(mu n X10.1 d4 K2.1 X20).bind λX26=>bif !(decide (X26.2=0)) then some (.br (.inl (X26.2,K2.2.2.2))) else(aq X18 X20).bind λX28=>(gq n d1 X24.ci).bind λX30=>(bif X30.2 then bif decide (X30.1.bB=X24.fR.bB) then(ov n X24.fR.bB X30.1.bk X26.1).bind λX32=>bif !(decide (X32.2=0)) then(some (.br (.inl (X32.2,K2.2.2.2))):Option (Lp (Cp×List Bs×Int×Cv) (Sum (Int×Cv) (Cp×List Bs×Cv)))).map Lp.br else some (.nx (X32.1,(true))) else some (.nx ((3:Int),(true))) else some (.nx ((1:Int),(false))):Option (Lp (Int×Bool) (Lp (Cp×List Bs×Int×Cv) (Sum (Int×Cv) (Cp×List Bs×Cv))))).bind λj=>joinF j λG4=>(bif decide (G4.1=0) then some (true) else some (decide (G4.1=2)):Option Bool).bind λG5=>(bif G5 then(lN n K2.1 X24.ci X30.1.bm).bind λX34=>some (X34) else some (K2.1):Option Cp).bind λG6=>ar ((K2.2.1.length+1)*16≤140737488355328)<|ar ((K2.2.2.2.length+1)*112≤140737488355328)<|ar (inR .i64 (K2.2.2.1+1))<|some (.nx (G6,K2.2.1++[X24.ci],K2.2.2.1+1,K2.2.2.2++[(⟨X24.ci,G4.1,X24.fR.bB,X26.1,(X24.fR.bV),X20,(G4.2),X28⟩:cV)])) else some (.br (.inr (K2.1,K2.2.1,K2.2.2.2)))
def uh (n:Nat) (d0:Int) (d1:gH) (d2:cI) (d3:Bs) (d4:Cp) (d5:Int):Option (bH×Int):=(bif decide (d0<0) then some (true) else bif decide ((2:Int)<d0) then some (true) else(nc n d1).bind λX1=>bif !(decide (X1=0)) then some (true) else bif decide (d5<1) then some (true) else some (decide ((4:Int)<d5)):Option Bool).bind λG1=>bif G1 then some ((⟨(0:Int),(0:Int),je,gG,([]:Bs),([]:Cp),([]:Cv),([]:Cx),(0:Int),(0:Int)⟩:bH),(2:Int)) else bif decide (d0=2) then(av (xl n d1) n ((0:Int),([]:Cv))).bind λG3=>some ((⟨d0,d5,d1,gG,([]:Bs),([]:Cp),G3,([]:Cx),(0:Int),(1:Int)⟩:bH),(0:Int)) else bif decide ((4096:Int)<(d3.length:Int)) then some ((⟨(0:Int),(0:Int),je,gG,([]:Bs),([]:Cp),([]:Cv),([]:Cx),(0:Int),(0:Int)⟩:bH),(3:Int)) else(vG n d2).bind λX8=>bif !(decide (X8.2=0)) then some ((⟨(0:Int),(0:Int),je,gG,([]:Bs),([]:Cp),([]:Cv),([]:Cx),(0:Int),(0:Int)⟩:bH),X8.2) else(ml n d2).bind λX10=>bif !(decide (X10.2=0)) then some ((⟨(0:Int),(0:Int),je,gG,([]:Bs),([]:Cp),([]:Cv),([]:Cx),(0:Int),(0:Int)⟩:bH),X10.2) else(wA n X10.1 d4).bind λX12=>bif !(decide (X12.2.2=0)) then some ((⟨(0:Int),(0:Int),je,gG,([]:Bs),([]:Cp),([]:Cv),([]:Cx),(0:Int),(0:Int)⟩:bH),X12.2.2) else(qU n X12.1).bind λX14=>bif !(decide (X14.2=0)) then some ((⟨(0:Int),(0:Int),je,gG,([]:Bs),([]:Cp),([]:Cv),([]:Cx),(0:Int),(0:Int)⟩:bH),X14.2) else(io n X10.1 d4).bind λX16=>(qT n X10.1 X12.1).bind λX18=>(av (xm n d1 d4 X10 X14 X16 X18) n (([]:Cp),([]:List Bs),(0:Int),([]:Cv))).bind λQ8=>(match Q8 with|.inl G7=>some ((⟨(0:Int),(0:Int),je,gG,([]:Bs),([]:Cp),([]:Cv),([]:Cx),(0:Int),(0:Int)⟩:bH),G7.1)|.inr G8=>(jH n X10.1 d4 G8.1).bind λX36=>bif !(decide (X36.2.2=0)) then some ((⟨(0:Int),(0:Int),je,gG,([]:Bs),([]:Cp),([]:Cv),([]:Cx),(0:Int),(0:Int)⟩:bH),X36.2.2) else(ui n X10.1 d4 G8.1 X16.1).bind λX38=>bif X38 then some ((⟨(0:Int),(0:Int),je,gG,([]:Bs),([]:Cp),([]:Cv),([]:Cx),(0:Int),(0:Int)⟩:bH),(3:Int)) else((uj n d1 G8.2.1).bind λX40=>ar ((G8.2.2.length+X40.length)*112≤140737488355328)<|some (G8.2.2++X40):Option Cv).bind λG9=>(aq X10.1.aV (0:Int)).bind λX42=>(iQ n X42.fT.bQ d4).bind λX44=>some ((⟨d0,d5,d1,X10.1,d3,X44.1,G9,([]:Cx),(0:Int),(1:Int)⟩:bH),(0:Int)))
set_option maxRecDepth 20000 in
theorem ref23_Plan_C (n:Nat) (d0:Int) (d1:gH) (d2:cI) (d3:Bs) (d4:Cp) (d5:Int) (z:Zs):oK (ez.facts d1 z++bq.facts d2 (sh 5 z)++[sX 8 aj (z 9) d4]) [] 21 [.int .i8 d0,ez.ag d1 z,bq.ag d2 (sh 5 z),S d3,wX (z 9) d4,.int .i64 d5] (uh n d0 d1 d2 d3 d4 d5) (λr y=>⟨.tuple #[bn.ag r.1 y,.int .i64 r.2],[],bn.facts r.1 y⟩):=
 fn 278 Tryz.func21 (jn (.reg 1) [bx 10,bx 11,al 12] (λG1 _ _=>{L:=[(55,.bool G1)],ks:=[0,3,4,5,7,8,12]}) (bs [] 39 (rt []) (bs [] 43 (rt []) (ob (λ_ X2=>bs [K 10 0,C (xk n d1) X2 [0,1,2,3,4] [] 13] 48 (rt []) (bs [] 52 (rt []) (rt [])))))) (kA λ_=>br [] (rt [Sn 12,nf 13 6 aK,nf 14 6 aK,nf 15 6 aK,nf 16 8 aj,nf 17 8 aj,nf 18 7 aT,nf 19 11 aS,nf 20 8 aj,nf 21 8 bi,nf 22 9 bF] {is:=[13,14,15,16,17,18,19,20,21,22],rk:=[12,0]}) (br [K 10 0,al 13,Sn 13] (lp [nr 14 15 64 dk] {is:=[15],js:=[14]} (λK1 z _=>{L:=[(15,.int .i64 K1.1)],ks:=[7,12,14],E:=[(17,rX 64 8 (z 1) K1.2)],x:=[14],m:=[(13,14,(z 1).sl K1.2.length)],F:=[(16,qX 8 bi (z 1) K1.2)]}) (λG3 z _=>{e:=.exit 0,ks:=[12,14],E:=[(30,rX 64 8 (z 1) G3)],x:=[14],m:=[(13,14,(z 1).sl G3.length)],F:=[(29,qX 8 bi (z 1) G3)]}) (λK1=>br [K 10 0] (jn (.reg 8) [] (λG2 z _=>{ks:=[7,12,14,15],E:=[(28,rX 64 8 (z 1) G2)],x:=[17],m:=[(13,14,(z 1).sl G2.length)],F:=[(27,qX 8 bi (z 1) G2)]}) (ob (λX3 X4=>ob (λX5 X6=>nd (λO1=>rt [Ie 0 18 bN X4,ch [13,17] [],lo (O 13),K 10 0,X 19,K 18 0,C (uL n X3) X6 [20,21] [] 22,th (ao 24) (lk 24 25 dk [(X5,[22,23])]),ap (ys:=[X5]) 17 16 25 26 dk O1,S1 13] {is:=[26],js:=[17]})))) (kA λ_=>nd (λO2=>rt [wr 69 O2] {is:=[27],js:=[28]}))) (rt [] {is:=[16],js:=[17]})) (kA λ_=>rt [O 13,ri 30 29 31,Sn 12,nf 32 7 aT,nf 33 11 aS,nf 34 8 aj,nf 35 9 bF] {is:=[0,1,2,3,4,32,33,34,31,35],rk:=[12,0]})) (br [] (rt [Sn 12,nf 14 6 aK,nf 15 6 aK,nf 16 6 aK,nf 17 8 aj,nf 18 8 aj,nf 19 7 aT,nf 20 11 aS,nf 21 8 aj,nf 22 8 bi,nf 23 9 bF] {is:=[14,15,16,17,18,19,20,21,22,23],rk:=[12,0]}) (ob (λ_ X9=>br [K 11 0,C (ref16_Check_C n d2) X9 [5,6,7,8] [] 14] (rt [Sn 12,nf 14 6 aK,nf 15 6 aK,nf 16 6 aK,nf 17 8 aj,nf 18 8 aj,nf 19 7 aT,nf 20 11 aS,nf 21 8 aj,nf 22 8 bi,nf 23 9 bF] {is:=[14,15,16,17,18,19,20,21,22,23],rk:=[12,0]}) (ob (λX10 X11=>br [K 11 0,C (Ax n d2) X11 [5,6,7,8] [] 14,al 16,Sn 16] (rt [Sn 12,nf 17 6 aK,nf 18 6 aK,nf 19 6 aK,nf 20 8 aj,nf 21 8 aj,nf 22 7 aT,nf 23 11 aS,nf 24 8 aj,nf 25 8 bi,nf 26 9 bF] {is:=[17,18,19,20,21,22,23,24,25,26],rk:=[12,0]}) (ob (λX12 X13=>br [O 16,C (ref19_Run_C n X10.1 d4) X13 [14,15,9] [] 17] (rt [Sn 12,nf 18 6 aK,nf 19 6 aK,nf 20 6 aK,nf 21 8 aj,nf 22 8 aj,nf 23 7 aT,nf 24 11 aS,nf 25 8 aj,nf 26 8 bi,nf 27 9 bF] {is:=[18,19,20,21,22,23,24,25,26,27],rk:=[12,0]}) (ob (λ_ X15=>br [ri 17 17 18,C (ref20_Order_C n X12.1) X15 [18] [] 19] (rt [Sn 12,nf 20 6 aK,nf 21 6 aK,nf 22 6 aK,nf 23 8 aj,nf 24 8 aj,nf 25 7 aT,nf 26 11 aS,nf 27 8 aj,nf 28 8 bi,nf 29 9 bF] {is:=[20,21,22,23,24,25,26,27,28,29],rk:=[12,0]}) (ob (λX16 X17=>ob (λ_ X19=>lp [O 16,C (nH n X10.1 d4) X17 [14,15,9] [] 20,O 16,C (ref19_Names_C n X10.1 X12.1) X19 [14,15,18] [] 21,nr 22 23 9 tS,nr 24 25 64 dk,nf 26 8 aj] {is:=[26,23,25],js:=[22,24]} (λK2 z _=>{L:=[(25,(z 0).sl K2.1.length),(26,(z 3).sl K2.2.1.length),(27,.int .i64 K2.2.2.1)],ks:=[3,4,7,12,14,18,21,22,24],E:=[(29,rX 9 1 (z 3) K2.2.1),(31,rX 64 8 (z 4) K2.2.2.2)],x:=[22,24],m:=[(13,14,(z 4).sl K2.2.2.2.length)],F:=[(27,sX 8 aj (z 0) K2.1),(28,qX 1 Dat.str (z 3) K2.2.1),(30,qX 8 bi (z 4) K2.2.2.2)]}) (λx z b=>match x with|.inl G7=>{e:=.ret,L:=[(13,.int .i64 G7.1)],ks:=[12],E:=[(61,rX 64 8 (z 1) G7.2)],x:=[22,24],m:=[(13,14,(z 1).sl G7.2.length)],F:=[(60,qX 8 bi (z 1) G7.2)]}|.inr G8=>{e:=.exit 2,L:=[(25,(z 0).sl G8.1.length),(26,(z 3).sl G8.2.1.length)],ks:=[3,4,7,12,14,18,22],E:=[(62,rX 9 1 (z 3) G8.2.1),(64,rX 64 8 (z 4) G8.2.2)],x:=[22,24],m:=[(13,14,(z 4).sl G8.2.2.length)],F:=[(60,sX 8 aj (z 0) G8.1),(61,qX 1 Dat.str (z 3) G8.2.1),(63,qX 8 bi (z 4) G8.2.2)]}) (λK2=>br [] (ob (λX20 X21=>ob (λ_ X23=>br [Re 19 19 32 (tI .i64) X21,X 33,Rd 19 32 0,Re 20 20 34 tB X23,X 35,Rd 20 34 0] (nd (λO3=>rt [wr 138 O3] {is:=[27,28,30],js:=[29,31]})) (ob (λX24 X25=>ob (λX26 X27=>br [O 16,I 15 36 iy X25,K 36 0,al 42,Sn 42,O 16,C (AC n X10.1 d4 K2.1 X20) X27 [14,15,9,27] [] 43] (rt [Sn 12] {is:=[30],js:=[31]}) (ob (λX28 X29=>ob (λX30 X31=>jb .no [Re 21 21 44 (tL 1 Dat.str) X29,ri 43 43 48,O 42,O 42,O 42,X 45,Rd 21 44 0,al 47,Sn 47,K 10 0,O 42,C (rW n d1 X24.ci) X31 [0,1,2,3,4] [] 49,al 51,Sn 51] (λG4 _ _=>{ks:=[3,4,7,12,14,18,21,22,24,25,26,27,29,32,33],m:=[(47,1,.int .i8 G4.1),(47,6,.bool G4.2)]}) (br [] (br [S1 47,S1 47,O 51,O 47] (ob (λ_ X33=>br [O 47,O 51,C (BO n X24.fR.bB X30.1.bk X26.1) X33 [49,48] [] 52] (esc [Sn 12] (rt [] {is:=[30],js:=[31]})) (rt [S1 47]))) (rt [])) (rt [])) (kA λG4=>jn (.reg 47) [] (λG5 _ _=>{L:=[(217,.bool G5)],ks:=[3,4,7,12,14,18,21,22,24,25,26,27,29,32,33]}) (bs [O 47] 213 (rt []) (rt [O 47])) (kA λ_=>jn .no [] (λG6 z _=>{L:=[(25,(z 0).sl G6.length)],ks:=[3,4,7,12,14,18,21,22,24,26,27,29,32],F:=[(53,sX 8 aj (z 0) G6)]}) (br [] (ob (λ_ X35=>rt [O 42,O 51,C (qZ n K2.1 X24.ci X30.1.bm) X35 [27] [] 52,ri 52 52 53] {is:=[53]})) (rt [] {is:=[27]})) (kA λ_=>nd (λO4=>nd (λO5=>nd (λO6=>rt [O 42,ao 54,lk 54 55 tS [(X24.ci,[])],ap (ys:=[X24.ci]) 29 28 55 56 tS O4,O 13,O 47,ao 57,lk 57 58 dk [((⟨X24.ci,G4.1,X24.fR.bB,X26.1,(X24.fR.bV),X20,(G4.2),X28⟩:cV),[48,46])],ap (ys:=[(⟨X24.ci,G4.1,X24.fR.bB,X26.1,(X24.fR.bV),X20,(G4.2),X28⟩:cV)]) 31 30 58 59 dk O5,S1 13,wr 138 O6] {is:=[53,56,59],js:=[29,31]}))))))))))))))) (rt [] {is:=[27,28,30],js:=[29,31]})) (kS (kA λ_=>rt [nf 62 6 aK,nf 63 6 aK,nf 64 6 aK,nf 65 8 aj,nf 66 8 aj,nf 67 7 aT,nf 68 11 aS,nf 69 8 aj,nf 70 8 bi,nf 71 9 bF] {is:=[62,63,64,65,66,67,68,69,70,71],rk:=[12,0]}) (kA λG8=>ob (λ_ X37=>br [O 16,C (uF n X10.1 d4 G8.1) X37 [14,15,9,60] [] 65] (rt [Sn 12,nf 66 6 aK,nf 67 6 aK,nf 68 6 aK,nf 69 8 aj,nf 70 8 aj,nf 71 7 aT,nf 72 11 aS,nf 73 8 aj,nf 74 8 bi,nf 75 9 bF] {is:=[66,67,68,69,70,71,72,73,74,75],rk:=[12,0]}) (ob (λ_ X39=>br [O 16,CL (ref23_long_C n X10.1 d4 G8.1 X16.1) X39 [14,15,9,60,66] [(20,20,66)]] (rt [Sn 12,nf 67 6 aK,nf 68 6 aK,nf 69 6 aK,nf 70 8 aj,nf 71 8 aj,nf 72 7 aT,nf 73 11 aS,nf 74 8 aj,nf 75 8 bi,nf 76 9 bF] {is:=[67,68,69,70,71,72,73,74,75,76],rk:=[12,0]}) (jn (.reg 56) [] (λG9 z _=>{ks:=[3,4,12,14,18],E:=[(72,rX 64 8 (z 1) G9)],x:=[62,64],m:=[(13,14,(z 1).sl G9.length)],F:=[(71,qX 8 bi (z 1) G9)]}) (ob (λ_ X41=>nd (λO7=>rt [ri 62 61 67,ch [13,64] [],lo (O 13),K 10 0,th (C (ref23_rest_C n d1 G8.2.1) X41 [0,1,2,3,4,67] [] 68) (ri 68 68 69),ap 64 63 69 70 dk O7,S1 13] {is:=[70],js:=[64]}))) (kA λ_=>ob (λX42 X43=>ob (λ_ X45=>rt [O 16,Sn 13,S1 13,O 16,I 14 73 iu X43,K 73 2,C (tD n X42.fT.bQ d4) X45 [74,9] [] 79,S1 13,O 13,ri 79 79 80,ri 72 71 81,Sn 12,nf 82 9 bF] {is:=[0,1,2,3,4,14,15,80,81,82],rk:=[12,0]}))))))))))))))))))))))))
variable {n:Nat}
def RbOK (l:List CD):Prop:=l.length≤10000000∧∀r∈l,r.length≤10000000
def InOK (l:List CD):Prop:=∀r∈l,∀i∈r,0≤i∧i<l.length
instance {l:List (List Int)}:Tt (lM n l) (10000000000001<n∧RbOK l) λb=>b=true→InOK l:=⟨λ ⟨hn,h1,h2⟩=>by
 unfold lM
 refine Tot.b (Tot.m (R:=λb=>match b with|.inl _=>True|.inr _=>InOK l) (Tot.lm l (λs=>s) (λr=>∀i∈r,0≤i∧i<l.length) (λ_=>True) (by omega) rfl trivial λs g1 _ hm=>?_) λb hb=>?_)
 · unfold uc
   refine Tot.cd (λg2=>?_) λg2=>Tot.sb (cu g2 hm)
   obtain⟨r,hr,hrm,ht⟩: ∃r,aq l s=some r∧r∈l∧(∀ {p:List Int→Prop},(∀y∈l.take s.toNat,p y)→p r→∀y∈l.take (s+1).toNat,p y):=by
    obtain⟨r,h,hh⟩:=Tot.gm (Q:=λr=>r∈l∧(∀ {p:List Int→Prop},(∀y∈l.take s.toNat,p y)→p r→∀y∈l.take (s+1).toNat,p y)) ⟨g1,g2⟩ λx hx ht=>⟨hx,ht⟩
    exact⟨r,h,hh.1,hh.2⟩
   have hrl:=h2 r hrm
   refine Tot.b (Tot.m (R:=λb=>match b with|.inl _=>True|.inr _=>∀i∈r,0≤i∧i<l.length) (Tot.lm r (λs=>s) (λi=>0≤i∧i<l.length) (λ_=>True) (by omega) rfl trivial λt f1 _ fm=>?_) λb hb=>?_)
   · unfold ud
     refine Tot.b (Tot.ge hr (Tot.cd (λf2=>Tot.b (Tot.ge hr ?_)) λf2=>Tot.sb (cu f2 fm)))
     obtain⟨i,hi,hit⟩: ∃i,aq r t=some i∧(∀ {p:Int→Prop},(∀y∈r.take t.toNat,p y)→p i→∀y∈r.take (t+1).toNat,p y):=by
      obtain⟨_,h3⟩:=Tot.gy (Q:=λ_=>True) (xs:=r) ⟨f1,f2⟩ λ_ _ _=>trivial
      obtain⟨i,h,hh⟩:=Tot.gm (Q:=λi=>(∀ {p:Int→Prop},(∀y∈r.take t.toNat,p y)→p i→∀y∈r.take (t+1).toNat,p y)) ⟨f1,f2⟩ λx hx ht=>ht
      exact⟨i,h,hh⟩
     exact Tot.b (Tot.ge hi (Tot.cd (λ_=>Tot.sb trivial) λq1=>Tot.b (Tot.ge hr (Tot.b (Tot.ge hi (Tot.cd (λ_=>Tot.sb trivial) λq2=>Tot.i (by omega) (Tot.sn ⟨f2,rfl,hit fm (by omega),trivial⟩)))))))
   · cases b with
     |inl _=>exact Tot.sb trivial
     |inr _=>exact Tot.i (by omega) (Tot.sn ⟨g2,rfl,ht hm hb,trivial⟩)
 · cases b with
   |inl _=>exact Tot.s (by simp)
   |inr _=>exact Tot.s λ_=>hb⟩
instance {l:List (List Int)}:Tt (qU n l) (10000000000001<n∧RbOK l) λr=>r.1.length≤l.length∧∀i∈r.1,0≤i∧i<l.length:=⟨λ ⟨hn,hl⟩=>by
 have hl':=hl
 obtain⟨h1,h2⟩:=hl'
 unfold qU
 refine Tot.cl ⟨hn,hl⟩ λb hb=>Tot.cn (Tot.c (λh=>?_) λ_=>Tot.s (by simp))
 have hin:=hb h
 refine Tot.n (by omega) (Tot.b (Tot.m (R:=λb=>match b with|.inl _=>True|.inr r=>r.length≤l.length∧∀i∈r,0≤i∧i<l.length) (Tot.l (λs=>s.1.length=l.length∧s.2.length≤l.length∧∀i∈s.2,0≤i∧i<l.length) (λs=>l.length-s.2.length) ⟨by simp,by simp,by simp⟩ (by dsimp only;omega) λs ⟨g1,g2,g3⟩=>?_) λb hb=>?_))
 · unfold vV
   refine Tot.cd (λg4=>Tot.i (by omega) (Tot.b (Tot.m (R:=λy=>y<0∨0≤y∧y<l.length) ?_ λy hy=>Tot.cd (λ_=>Tot.sb trivial) λq=>Tot.b (Tot.gy (by omega) λ_ _ _=>Tot.n (by omega) (Tot.sn ⟨⟨by simp[g1],by simp;omega,λi hi=>?_⟩,by simp;omega⟩))))) λ_=>Tot.sb ⟨g2,g3⟩
   · refine Tot.l (λs2=>(s2.1<0∨0≤s2.1∧s2.1<l.length)∧s2.2<l.length∧ -1≤s2.2) (λs2=>(s2.2+1).toNat) ⟨by simp,by dsimp only;omega,by dsimp only;omega⟩ (by dsimp only;omega) λs2 ⟨f1,f2,f3⟩=>?_
     unfold vW
     refine Tot.cd (λf4=>?_) λ_=>Tot.sb f1
     obtain⟨r,hr,hrm⟩: ∃r,aq l s2.2=some r∧r∈l:=Tot.gy (Q:=λx=>x∈l) ⟨f4,f2⟩ λ_ _ h=>h
     have hrl:=h2 r hrm
     refine Tot.b (Tot.gy (by omega) λb _ _=>Tot.b (Tot.m (R:=λ_=>True) (Tot.li (λs3=>s3.2) (λ_=>True) r.length (by omega) (by simp) λs3 e1 _=>?_) λy _=>Tot.c (λ_=>Tot.i (by omega) (Tot.sn ⟨⟨.inr ⟨f4,f2⟩,by dsimp only;omega,by dsimp only;omega⟩,by dsimp only;omega⟩)) λ_=>Tot.i (by omega) (Tot.sn ⟨⟨f1,by dsimp only;omega,by dsimp only;omega⟩,by dsimp only;omega⟩)))
     unfold vX
     refine Tot.b (Tot.ge hr (Tot.cd (λe2=>?_) λ_=>Tot.sb trivial))
     refine Tot.c (λ_=>Tot.b (Tot.ge hr (Tot.b (Tot.gy ⟨e1,e2⟩ λi _ hi=>Tot.b (Tot.gy ?_ λ_ _ _=>by exact tgo))))) λ_=>by exact tgo
     have:=hin r hrm i hi
     omega
   · rcases List.mem_append.1 hi with hi|hi
     · exact g3 i hi
     · rw[List.mem_singleton.1 hi];omega
 · cases b with
   |inl _=>exact Tot.s (by simp)
   |inr r=>exact Tot.s hb⟩
open Go.Ck
def AB (n:Nat) (d0:List CD) (K1:Int×List CD) (K2:Int×List CD):Option (Lp (Int×List CD) (List CD)):=(aq d0 K1.1).bind λX1=>bif decide (K2.1<(X1.length:Int)) then((aq X1 K2.1).bind λX4=>(aq K2.2 X4).bind λX8=>ar ((X8.length+1)*8≤140737488355328)<|some (K2.2.set X4.toNat (X8++[K1.1])):Option (List CD)).bind λG1=>ar (inR .i64 (K2.1+1))<|some (.nx (K2.1+1,G1)) else some (.br K2.2)
def AA (n:Nat) (d0:List CD) (K1:Int×List CD):Option (Lp (Int×List CD) (List CD)):=bif decide (K1.1<(d0.length:Int)) then(av (AB n d0 K1) n ((0:Int),K1.2)).bind λG2=>ar (inR .i64 (K1.1+1))<|some (.nx (K1.1+1,G2)) else some (.br K1.2)
def yA (n:Nat) (d0:List CD):Option (List CD):=ar (0≤(d0.length:Int)∧(d0.length:Int)*24≤140737488355328∧(d0.length:Int)≤140737488355328)<|(av (AA n d0) n ((0:Int),List.replicate (d0.length:Int).toNat ([]:CD))).bind λG3=>some (G3)
theorem Ch (n:Nat) (d0:List CD) (z:Zs):oK ([.sli 1 (eL 1 (Dat.int .i64)) (z 0).A (z 0).c d0]) [] 189 [wX (z 0) d0] (yA n d0) (λr y=>⟨(y 0).sl r.length,[],[.sli 1 (eL 1 (Dat.int .i64)) (y 0).A (y 0).c r]⟩):=
 fn 47 Tryz.func189 (nd (λO1=>lp [mR 1 2 .i64 O1] {is:=[2]} (λK1 z _=>{L:=[(4,.int .i64 K1.1)],ks:=[0,3],o:=[(1,.cells (z 0).k.toArray 47 (0,0))],F:=[(3,.ln (z 0).k K1.2.length (d0.length:Int).toNat)],B:=some (rbag 3 .i64 K1.2 (z 0).k)}) (λG3 z _=>{e:=.exit 0,ks:=[3],o:=[(1,.cells (z 0).k.toArray 47 (0,0))],F:=[(27,.ln (z 0).k G3.length (d0.length:Int).toNat)],B:=some (rbag 3 .i64 G3 (z 0).k)}) (λK1=>br [] (lp [] {is:=[3]} (λK2 z _=>{L:=[(5,.int .i64 K2.1)],ks:=[0,3,4],o:=[(1,.cells (z 0).k.toArray 47 (0,0))],F:=[(4,.ln (z 0).k K2.2.length (d0.length:Int).toNat)],B:=some (rbag 3 .i64 K2.2 (z 0).k)}) (λG2 z _=>{e:=.exit 2,ks:=[0,3,4],o:=[(1,.cells (z 0).k.toArray 47 (0,0))],F:=[(26,.ln (z 0).k G2.length (d0.length:Int).toNat)],B:=some (rbag 3 .i64 G2 (z 0).k)}) (λK2=>ob (λ_ X2=>br [I 0 5 (tL 1 (Dat.int .i64)) X2,K 5 0] (jn (.reg 8) [] (λG1 z _=>{ks:=[0,3,4,5],o:=[(1,.cells (z 0).k.toArray 47 (0,0))],F:=[(25,.ln (z 0).k G1.length (d0.length:Int).toNat)],B:=some (rbag 3 .i64 G1 (z 0).k)}) (ob (λ_ X5=>ob (λX8 X9=>nd (λO2=>rt [Ie 0 7 (tL 1 (Dat.int .i64)) X2,Ie 9 10 (tI .i64) X5,Ie 0 12 (tL 1 (Dat.int .i64)) X2,Ie 14 15 (tI .i64) X5,pR 1 4 17 20 3 .i64 X9,ch [1,20] [],X 8,K 7 0,X 11,K 10 0,X 13,K 12 0,X 16,K 15 0,X 17,lo (lR 1 18),th (ao 21) (lk 21 22 (tI .i64) [(K1.1,[])]),ap (ys:=[K1.1]) 20 19 22 23 (tI .i64) O2,X 17,wR 1 4 17,pB 1 4 20 23 24 3 .i64 X9 (X8++[K1.1])] {is:=[24]})))) (kA λ_=>nd (λO3=>rt [wr 23 O3] {is:=[25]}))) (rt [] {is:=[4]}))) (kA λ_=>nd (λO4=>rt [wr 14 O4] {is:=[26]}))) (rt [] {is:=[3]})) (kA λG3=>rt [wt 2,kR 1 27 28 3 .i64 G3 [2]] {is:=[28]})))
open Go.Ck
def yz (n:Nat) (d0:List CD) (K1:Int) (K2:Int):Option (Lp Int (Sum Unit Unit)):=(aq d0 K1).bind λX5=>bif decide (K2<(X5.length:Int)) then(aq d0 K1).bind λX7=>(aq X7 K2).bind λX9=>bif decide (X9<0) then some (.br (.inl ())) else(aq d0 K1).bind λX11=>(aq X11 K2).bind λX13=>bif decide ((d0.length:Int)≤X13) then some (.br (.inl ())) else ar (inR .i64 (K2+1))<|some (.nx (K2+1)) else some (.br (.inr ()))
def yy (n:Nat) (d0:List CD) (d1:CD) (K1:Int):Option (Lp Int (Sum Unit Unit)):=bif decide (K1<(d0.length:Int)) then((aq d1 K1).bind λX1=>bif decide (X1<0) then some (true) else(aq d1 K1).bind λX3=>some (decide ((5:Int)<X3)):Option Bool).bind λG1=>bif G1 then some (.br (.inl ())) else(av (yz n d0 K1) n (0:Int)).bind λQ2=>(match Q2 with|.inl G2=>some (.br (.inl ()))|.inr G3=>ar (inR .i64 (K1+1))<|some (.nx (K1+1))) else some (.br (.inr ()))
def wB (n:Nat) (d0:List CD) (d1:CD):Option Bool:=bif !(decide ((d0.length:Int)=(d1.length:Int))) then some (false) else(av (yy n d0 d1) n (0:Int)).bind λQ1=>(match Q1 with|.inl G4=>some (false)|.inr G5=>some (true))
theorem ref21_May_C (n:Nat) (d0:List CD) (d1:CD) (z:Zs):oK ([.sli 1 (eL 1 (Dat.int .i64)) (z 0).A (z 0).c d0,sX 1 (Dat.int .i8) (z 1) d1]) [] 129 [wX (z 0) d0,wX (z 1) d1] (wB n d0 d1) (λr y=>⟨.bool r,[],[]⟩):=
 fn 59 Tryz.func129 (br [] (rt []) (lp [] {} (λK1 _ _=>{L:=[(5,.int .i64 K1)],ks:=[0,1]}) (λx z b=>match x with|.inl G4=>{e:=.ret,L:=[(4,.bool false)]}|.inr G5=>{e:=.exit 0}) (λK1=>br [] (jn (.reg 6) [] (λG1 _ _=>{L:=[(29,.bool G1)],ks:=[0,1,5]}) (ob (λ_ X2=>bs [I 1 2 (tI .i8) X2,K 2 0] 23 (rt []) (ob (λ_ X4=>rt [I 1 3 (tI .i8) X4,K 3 0])))) (kA λ_=>br [] (rt []) (lp [] {} (λK2 _ _=>{L:=[(6,.int .i64 K2)],ks:=[0,1,5]}) (λx z b=>match x with|.inl G2=>{e:=.ret,L:=[(4,.bool false)]}|.inr G3=>{e:=.exit 2,ks:=[0,1,5]}) (λK2=>ob (λ_ X6=>br [I 0 4 (tL 1 (Dat.int .i64)) X6,K 4 0] (ob (λ_ X8=>ob (λ_ X10=>bs [I 0 6 (tL 1 (Dat.int .i64)) X8,K 6 0,I 7 8 (tI .i64) X10,K 8 0] 47 (rt [cd true]) (ob (λ_ X12=>ob (λ_ X14=>br [I 0 9 (tL 1 (Dat.int .i64)) X12,K 9 0,I 10 11 (tI .i64) X14,K 11 0] (rt []) (nd (λO1=>rt [wr 38 O1])))))))) (rt []))) (kS (kA λ_=>rt []) (kA λ_=>nd (λO2=>rt [wr 17 O2])))))) (rt [])) (kS (kA λ_=>rt []) (kA λ_=>rt []))))
def zm (n:Nat) (d0:List CD) (d1:Bool):Option (List CD):=bif d1 then(yA n d0).bind λX1=>some (X1) else some (d0)
theorem ref21_way_C (n:Nat) (d0:List CD) (d1:Bool) (z:Zs):oK ([.sli 1 (eL 1 (Dat.int .i64)) (z 0).A (z 0).c d0]) [] 130 [wX (z 0) d0,.bool d1] (zm n d0 d1) (λr y=>⟨(y 0).sl r.length,[],[.sli 1 (eL 1 (Dat.int .i64)) (y 0).A (y 0).c r]⟩):=
 fn 9 Tryz.func130 (br [] (ob (λ_ X2=>rt [C (Ch n d0) X2 [0] [] 1] {is:=[1]})) (rt [] {is:=[0]}))
def wc (n:Nat) (d1:CD) (X3:List CD) (K1:CD×Int) (K2:Bool×Int):Option (Lp (Bool×Int) Bool):=(aq X3 K1.2).bind λX7=>bif decide (K2.2<(X7.length:Int)) then(aq X3 K1.2).bind λX9=>(aq X9 K2.2).bind λX11=>(aq d1 X11).bind λX13=>bif K2.1 then bif decide (X13=0) then ar (inR .i64 (K2.2+1))<|some (.nx ((true),K2.2+1)) else ar (inR .i64 (K2.2+1))<|some (.nx ((decide (X13=3)),K2.2+1)) else ar (inR .i64 (K2.2+1))<|some (.nx ((false),K2.2+1)) else some (.br (K2.1))
def wb (n:Nat) (d1:CD) (X3:List CD) (K1:CD×Int):Option (Lp (CD×Int) CD):=bif decide (K1.2<(X3.length:Int)) then(aq d1 K1.2).bind λX5=>(av (wc n d1 X3 K1) n ((decide (X5=1)),(0:Int))).bind λG1=>bif G1 then ar ((K1.1.length+1)*8≤140737488355328)<|ar (inR .i64 (K1.2+1))<|some (.nx (K1.1++[K1.2],K1.2+1)) else ar (inR .i64 (K1.2+1))<|some (.nx (K1.1,K1.2+1)) else some (.br K1.1)
def qW (n:Nat) (d0:List CD) (d1:CD) (d2:Bool):Option (CD×Int):=(wB n d0 d1).bind λX1=>bif !X1 then some (([]:CD),(2:Int)) else(zm n d0 (d2)).bind λX3=>(av (wb n d1 X3) n (([]:CD),(0:Int))).bind λG2=>some (G2,(0:Int))
theorem ref21_Ready_C (n:Nat) (d0:List CD) (d1:CD) (d2:Bool) (z:Zs):oK ([.sli 1 (eL 1 (Dat.int .i64)) (z 0).A (z 0).c d0,sX 1 (Dat.int .i8) (z 1) d1]) [] 66 [wX (z 0) d0,wX (z 1) d1,.bool d2] (qW n d0 d1 d2) (λr y=>⟨.tuple #[wX (y 1) r.1,.int .i64 r.2],[rX 3 1 (y 1) r.1],[qX 1 (Dat.int .i64) (y 1) r.1]⟩):=
 fn 66 Tryz.func66 (ob (λ_ X2=>br [C (ref21_May_C n d0 d1) X2 [0,1] [] 2] (rt [nr 2 3 3 (tI .i64)] {is:=[3],js:=[2]}) (ob (λ_ X4=>lp [C (ref21_way_C n d0 (d2)) X4 [0] [] 2,nr 3 4 3 (tI .i64)] {is:=[4],js:=[3]} (λK1 z _=>{L:=[(9,(z 1).sl K1.1.length),(10,.int .i64 K1.2)],ks:=[1,8],E:=[(6,rX 3 1 (z 1) K1.1)],x:=[3],F:=[(5,qX 1 (Dat.int .i64) (z 1) K1.1)]}) (λG2 z _=>{e:=.exit 0,L:=[(9,(z 1).sl G2.length)],E:=[(18,rX 3 1 (z 1) G2)],x:=[3],F:=[(17,qX 1 (Dat.int .i64) (z 1) G2)]}) (λK1=>br [] (ob (λ_ X6=>lp [I 1 7 (tI .i8) X6,K 7 0] {} (λK2 _ _=>{L:=[(11,.bool K2.1),(12,.int .i64 K2.2)],ks:=[1,8,9,10]}) (λG1 _ _=>{e:=.exit 2,L:=[(11,.bool G1)],ks:=[1,8,9,10]}) (λK2=>ob (λ_ X8=>br [I 2 8 (tL 1 (Dat.int .i64)) X8,K 8 0] (ob (λ_ X10=>ob (λ_ X12=>ob (λ_ X14=>bs [I 2 10 (tL 1 (Dat.int .i64)) X10,K 10 0,I 11 12 (tI .i64) X12,K 12 0,I 1 13 (tI .i8) X14,K 13 0] 52 (bs [] 55 (nd (λO1=>rt [wr 40 O1])) (nd (λO2=>rt [wr 40 O2]))) (nd (λO3=>rt [wr 40 O3])))))) (rt []))) (kA λ_=>br [] (nd (λO4=>nd (λO5=>rt [ao 14,lk 14 15 (tI .i64) [(K1.2,[])],ap (ys:=[K1.2]) 6 5 15 16 (tI .i64) O4,wr 26 O5] {is:=[16],js:=[6]}))) (nd (λO6=>rt [wr 26 O6] {is:=[5],js:=[6]}))))) (rt [] {is:=[5],js:=[6]})) (kA λ_=>rt [] {is:=[17],js:=[18]})))))
def wa (n:Nat) (d0:CD) (d1:Int) (K1:Int×Int):Option (Lp (Int×Int) Int):=bif decide (K1.2<(d0.length:Int)) then(aq d0 K1.2).bind λX1=>bif decide (X1=d1) then ar (inR .i64 (K1.1+1))<|ar (inR .i64 (K1.2+1))<|some (.nx (K1.1+1,K1.2+1)) else ar (inR .i64 (K1.2+1))<|some (.nx (K1.1,K1.2+1)) else some (.br K1.1)
def jc (n:Nat) (d0:CD) (d1:Int):Option Int:=(av (wa n d0 d1) n ((0:Int),(0:Int))).bind λG1=>some (G1)
theorem mp (n:Nat) (d0:CD) (d1:Int) (z:Zs):oK ([sX 1 (Dat.int .i8) (z 0) d0]) [] 64 [wX (z 0) d0,.int .i8 d1] (jc n d0 d1) (λr y=>⟨.int .i64 r,[],[]⟩):=
 fn 22 Tryz.func64 (lp [] {} (λK1 _ _=>{L:=[(5,.int .i64 K1.1),(6,.int .i64 K1.2)],ks:=[0,1]}) (λG1 _ _=>{e:=.exit 0,L:=[(5,.int .i64 G1)]}) (λK1=>br [] (ob (λ_ X2=>br [I 0 1 (tI .i8) X2,K 1 0] (nd (λO1=>nd (λO2=>rt [wr 20 O1,wr 12 O2]))) (nd (λO3=>rt [wr 12 O3])))) (rt [])) (kA λ_=>rt []))
def ue (n:Nat) (d0:CD):Option Bool:=(jc n d0 (1:Int)).bind λX1=>(jc n d0 (2:Int)).bind λX3=>ar (inR .i64 (X1+X3))<|some (decide ((X1+X3)=0))
theorem ref21_Over_C (n:Nat) (d0:CD) (z:Zs):oK ([sX 1 (Dat.int .i8) (z 0) d0]) [] 65 [wX (z 0) d0] (ue n d0) (λr y=>⟨.bool r,[],[]⟩):=
 fn 9 Tryz.func65 (ob (λ_ X2=>ob (λ_ X4=>nd (λO1=>rt [C (mp n d0 (1:Int)) X2 [0] [] 1,C (mp n d0 (2:Int)) X4 [0] [] 1,wr 7 O1]))))
open Go.Ck
def mv (n:Nat) (d0:bH) (K1:Cv×Int):Option (Lp (Cv×Int) Cv):=bif decide (K1.2<(d0.am.length:Int)) then(aq d0.am K1.2).bind λX1=>(bif decide (X1.aA=4) then some ([]:List Bs) else some (X1.bA):Option (List Bs)).bind λG1=>ar ((K1.1.length+1)*112≤140737488355328)<|ar (inR .i64 (K1.2+1))<|some (.nx (K1.1++[(⟨X1.ci,X1.aA,X1.bB,X1.bk,(X1.bV),X1.sq,(X1.bI),G1⟩:cV)],K1.2+1)) else some (.br K1.1)
def qo (n:Nat) (d0:bH):Option bH:=(av (mv n d0) n (([]:Cv),(0:Int))).bind λG2=>some (⟨d0.aA,d0.co,d0.bI,d0.ig,d0.be,d0.bG,G2,d0.an,d0.aJ,d0.cm⟩:bH)
theorem yG (n:Nat) (d0:bH) (z:Zs):oK (bn.facts d0 z) [] 127 [bn.ag d0 z] (qo n d0) (λr y=>⟨bn.ag r y,[],bn.facts r y⟩):=
 fn 29 Tryz.func127 (lp [al 10,al 11,nr 12 13 64 dk] {is:=[13],js:=[12]} (λK1 z _=>{L:=[(3,(z 1).sl K1.1.length),(4,.int .i64 K1.2)],ks:=[1,2],E:=[(15,rX 64 8 (z 1) K1.1)],x:=[12],F:=[(14,qX 8 bi (z 1) K1.1)]}) (λG2 z _=>{e:=.exit 0,L:=[(3,(z 1).sl G2.length)],ks:=[1,2],E:=[(25,rX 64 8 (z 1) G2)],x:=[12],F:=[(24,qX 8 bi (z 1) G2)]}) (λK1=>br [O 10] (ob (λX1 X2=>jn .no [O 10,I 8 16 dk X2,K 16 0,al 19,Sn 19,O 19] (λG1 z _=>{ks:=[1,2,3,4,5],m:=[(19,7,(z 0).sl G1.length)],F:=[(20,sX 1 Dat.str (z 0) G1)]}) (br [] (rt [S1 19,nf 20 1 Dat.str] {is:=[20]}) (rt [] {is:=[18]})) (kA λG1=>nd (λO1=>nd (λO2=>rt [O 19,ao 21,lk 21 22 dk [((⟨X1.ci,X1.aA,X1.bB,X1.bk,(X1.bV),X1.sq,(X1.bI),G1⟩:cV),[17,20])],ap (ys:=[(⟨X1.ci,X1.aA,X1.bB,X1.bk,(X1.bV),X1.sq,(X1.bI),G1⟩:cV)]) 15 14 22 23 dk O1,wr 12 O2] {is:=[23],js:=[15]}))))) (rt [] {is:=[14],js:=[15]})) (kA λ_=>rt [S1 10,O 10,ri 25 24 26,Sn 11] {is:=[0,1,2,3,4,5,6,7,26,9],rk:=[11]}))
def kY (n:Nat) (d0:List CD) (K1:Int) (K2:Int):Option (Lp Int (Sum Unit Unit)):=(aq d0 K1).bind λX1=>bif decide (K2<(X1.length:Int)) then(aq d0 K1).bind λX3=>(aq X3 K2).bind λX5=>bif decide (K1≤X5) then some (.br (.inl ())) else ar (inR .i64 (K2+1))<|some (.nx (K2+1)) else some (.br (.inr ()))
def kX (n:Nat) (d0:List CD) (K1:Int):Option (Lp Int (Sum Unit Unit)):=bif decide (K1<(d0.length:Int)) then(av (kY n d0 K1) n (0:Int)).bind λQ2=>(match Q2 with|.inl G1=>some (.br (.inl ()))|.inr G2=>ar (inR .i64 (K1+1))<|some (.nx (K1+1))) else some (.br (.inr ()))
def rg (n:Nat) (d0:List CD):Option Bool:=(av (kX n d0) n (0:Int)).bind λQ1=>(match Q1 with|.inl G3=>some (false)|.inr G4=>some (true))
theorem ref25_ahead_C (n:Nat) (d0:List CD) (z:Zs):oK ([.sli 1 (eL 1 (Dat.int .i64)) (z 0).A (z 0).c d0]) [] 126 [wX (z 0) d0] (rg n d0) (λr y=>⟨.bool r,[],[]⟩):=
 fn 29 Tryz.func126 (lp [] {} (λK1 _ _=>{L:=[(3,.int .i64 K1)],ks:=[0]}) (λx z b=>match x with|.inl G3=>{e:=.ret,L:=[(2,.bool false)]}|.inr G4=>{e:=.exit 0}) (λK1=>br [] (lp [] {} (λK2 _ _=>{L:=[(4,.int .i64 K2)],ks:=[0,3]}) (λx z b=>match x with|.inl G1=>{e:=.ret,L:=[(2,.bool false)]}|.inr G2=>{e:=.exit 2,ks:=[0,3]}) (λK2=>ob (λ_ X2=>br [I 0 1 (tL 1 (Dat.int .i64)) X2,K 1 0] (ob (λ_ X4=>ob (λ_ X6=>br [I 0 3 (tL 1 (Dat.int .i64)) X4,K 3 0,I 4 5 (tI .i64) X6,K 5 0] (rt []) (nd (λO1=>rt [wr 19 O1]))))) (rt []))) (kS (kA λ_=>rt []) (kA λ_=>nd (λO2=>rt [wr 10 O2])))) (rt [])) (kS (kA λ_=>rt []) (kA λ_=>rt [])))
def oL (n:Nat) (d0:bH) (K1:Int) (X3:dq) (K2:Int):Option (Lp Int (Sum Unit Unit)):=bif decide (K2<K1) then(aq d0.an K2).bind λX5=>bif decide (X5.aX=X3.aX) then(aq d0.an K2).bind λX7=>bif decide (X7.aJ=X3.aJ) then some (.br (.inl ())) else ar (inR .i64 (K2+1))<|some (.nx (K2+1)) else ar (inR .i64 (K2+1))<|some (.nx (K2+1)) else some (.br (.inr ()))
def oJ (n:Nat) (d0:bH) (K1:Int):Option (Lp Int (Sum Unit Unit)):=bif decide (K1<(d0.an.length:Int)) then(aq d0.an K1).bind λX3=>(ar (inR .i64 (K1+1))<|bif !(decide (X3.cP.gX=(K1+1))) then some (true) else bif decide (X3.aX<0) then some (true) else bif decide ((d0.am.length:Int)≤X3.aX) then some (true) else bif decide (X3.bW<0) then some (true) else bif decide ((2:Int)<X3.bW) then some (true) else bif decide (X3.aJ<0) then some (true) else some (decide ((2:Int)<X3.aJ)):Option Bool).bind λG2=>bif G2 then some (.br (.inl ())) else(av (oL n d0 K1 X3) n (0:Int)).bind λQ4=>(match Q4 with|.inl G3=>some (.br (.inl ()))|.inr G4=>ar (inR .i64 (K1+1))<|some (.nx (K1+1))) else some (.br (.inr ()))
def lO (n:Nat) (d0:bH):Option Bool:=(bif decide (d0.co<1) then some (true) else bif decide ((4:Int)<d0.co) then some (true) else bif decide (d0.aJ<0) then some (true) else bif decide ((3:Int)<d0.aJ) then some (true) else(nc n d0.bI).bind λX1=>some (!(decide (X1=0))):Option Bool).bind λG1=>bif G1 then some (false) else(av (oJ n d0) n (0:Int)).bind λQ2=>(match Q2 with|.inl G5=>some (false)|.inr G6=>(qo n d0).bind λX10=>(gp n X10 (false)).bind λX12=>(rg n X12).bind λX14=>some (X14))
theorem rb (n:Nat) (d0:bH) (z:Zs):oK (bn.facts d0 z) [] 61 [bn.ag d0 z] (lO n d0) (λr y=>⟨.bool r,[],[]⟩):=
 fn 110 Tryz.func61 (jn (.reg 1) [bx 10] (λG1 _ _=>{L:=[(29,.bool G1)],ks:=[1]}) (bs [K 10 1] 9 (rt []) (bs [K 10 1] 14 (rt []) (bs [K 10 16] 19 (rt []) (bs [K 10 16] 24 (rt []) (ob (λ_ X2=>rt [K 10 2,C (xk n d0.bI) X2 [0,1,2,3,4] [] 11])))))) (kA λ_=>br [] (rt []) (lp [] {} (λK1 _ _=>{L:=[(3,.int .i64 K1)],ks:=[1]}) (λx z b=>match x with|.inl G5=>{e:=.ret,L:=[(2,.bool false)]}|.inr G6=>{e:=.exit 0,ks:=[1]}) (λK1=>br [K 10 15] (ob (λ_ X4=>jn (.reg 7) [K 10 15,I 9 11 cx X4,K 11 0,al 13,Sn 13] (λG2 _ _=>{L:=[(80,.bool G2)],ks:=[1,3,4]}) (nd (λO1=>bs [O 13,wr 46 O1] 48 (rt []) (bs [O 13] 53 (rt []) (bs [O 13,K 10 14] 61 (rt []) (bs [O 13] 66 (rt []) (bs [O 13] 71 (rt []) (bs [O 13] 76 (rt []) (rt [O 13])))))))) (kA λ_=>br [] (rt []) (lp [] {} (λK2 _ _=>{L:=[(5,.int .i64 K2)],ks:=[1,3,4]}) (λx z b=>match x with|.inl G3=>{e:=.ret,L:=[(2,.bool false)]}|.inr G4=>{e:=.exit 2,ks:=[1,3]}) (λK2=>br [] (ob (λ_ X6=>bh (.reg 12) [Ie 9 14 cx X6] (λB15=>ob (λ_ X8=>br [Ie 9 17 cx X8,ch [] [(95,⟨cB B15⟩)],K 10 15,X 15,K 14 0,O 13,K 10 15,X 18,K 17 1,O 13] (rt []) (nd (λO2=>rt [wr 85 O2])))) (λB15=>nd (λO3=>rt [ch [] [(95,⟨cB B15⟩)],K 10 15,X 15,K 14 0,O 13,cd true,cd true,cd true,cd true,cd false,wr 85 O3])))) (rt [])) (kS (kA λ_=>rt []) (kA λ_=>nd (λO4=>rt [wr 36 O4]))))))) (rt [])) (kS (kA λ_=>rt []) (kA λ_=>ob (λX10 X11=>ob (λX12 X13=>ob (λ_ X15=>rt [K 10 0,C (yG n d0) X11 [0,1,2,3,4,5,6,7,8,9] [] 20,C (rV n X10 (false)) X13 [20,21,22,23,24,25,26,27,28,29] [] 30,CL (ref25_ahead_C n X12) X15 [31] [(30,30,31)]]))))))))
def uM (n:Nat) (d0:bH) (K1:CD×Int):Option (Lp (CD×Int) CD):=bif decide (K1.2<(d0.an.length:Int)) then(aq d0.an K1.2).bind λX1=>bif decide (X1.bW=0) then(aq d0.an K1.2).bind λX3=>ar ((K1.1.length+1)*8≤140737488355328)<|ar (inR .i64 (K1.2+1))<|some (.nx (K1.1++[X3.cP.gX],K1.2+1)) else ar (inR .i64 (K1.2+1))<|some (.nx (K1.1,K1.2+1)) else some (.br K1.1)
def kV (n:Nat) (d0:bH):Option CD:=(av (uM n d0) n (([]:CD),(0:Int))).bind λG1=>some (G1)
theorem qm (n:Nat) (d0:bH) (z:Zs):oK (bn.facts d0 z) [] 62 [bn.ag d0 z] (kV n d0) (λr y=>⟨(y 1).sl r.length,[rX 3 1 (y 1) r],[qX 1 (Dat.int .i64) (y 1) r]⟩):=
 fn 30 Tryz.func62 (lp [bx 10,nr 11 12 3 (tI .i64)] {is:=[12],js:=[11]} (λK1 z _=>{L:=[(3,(z 1).sl K1.1.length),(4,.int .i64 K1.2)],ks:=[1],E:=[(14,rX 3 1 (z 1) K1.1)],x:=[11],F:=[(13,qX 1 (Dat.int .i64) (z 1) K1.1)]}) (λG1 z _=>{e:=.exit 0,L:=[(3,(z 1).sl G1.length)],E:=[(23,rX 3 1 (z 1) G1)],x:=[11],F:=[(22,qX 1 (Dat.int .i64) (z 1) G1)]}) (λK1=>br [K 10 15] (ob (λ_ X2=>br [K 10 15,I 9 15 cx X2,K 15 7] (ob (λX3 X4=>nd (λO1=>nd (λO2=>rt [K 10 15,I 9 17 cx X4,K 17 2,ao 19,lk 19 20 (tI .i64) [(X3.cP.gX,[])],ap (ys:=[X3.cP.gX]) 14 13 20 21 (tI .i64) O1,wr 11 O2] {is:=[21],js:=[14]})))) (nd (λO3=>rt [wr 11 O3] {is:=[13],js:=[14]})))) (rt [] {is:=[13],js:=[14]})) (kA λ_=>rt [] {is:=[22],js:=[23]}))
def xt (n:Nat) (d0:bH) (d1:Int) (d2:Int) (K1:Int×dq):Option (Lp (Int×dq) (Sum dq dq)):=bif decide (K1.1<(d0.an.length:Int)) then((aq d0.an K1.1).bind λX1=>bif decide (X1.aX=d1) then(aq d0.an K1.1).bind λX3=>some (decide (X3.aJ=d2)) else some (false):Option Bool).bind λG1=>bif G1 then(aq d0.an K1.1).bind λX5=>some (.br (.inl X5)) else ar (inR .i64 (K1.1+1))<|some (.nx (K1.1+1,K1.2)) else some (.br (.inr K1.2))
def qn (n:Nat) (d0:bH) (d1:Int) (d2:Int):Option (dq×Bool):=(av (xt n d0 d1 d2) n ((0:Int),(⟨(0:Int),(0:Int),yJ,(0:Int),([]:Bs)⟩:dq))).bind λQ3=>(match Q3 with|.inl G2=>some (G2,(true))|.inr G3=>some ((⟨(0:Int),(0:Int),yJ,(0:Int),([]:Bs)⟩:dq),(false)))
theorem yE (n:Nat) (d0:bH) (d1:Int) (d2:Int) (z:Zs):oK (bn.facts d0 z) [] 14 [bn.ag d0 z,.int .i64 d1,.int .i8 d2] (qn n d0 d1 d2) (λr y=>⟨.tuple #[cx.ag r.1 y,.bool r.2],[],cx.facts r.1 y⟩):=
 fn 40 Tryz.func14 (lp [bx 10,al 11,nf 12 8 aj] {is:=[12]} (λK1 z _=>{L:=[(8,.int .i64 K1.1)],ks:=[1,2,3,6],o:=[(11,.cells (cx.cells K1.2 z).toArray 66 (0,0))],F:=nums 13 (cx.facts K1.2 z)}) (λx z b=>match x with|.inl G2=>{e:=.ret,L:=[(7,.bool true)],ks:=[6],o:=[(11,.cells (cx.cells G2 z).toArray 66 (0,0))],F:=nums 20 (cx.facts G2 z)}|.inr G3=>{e:=.exit 0,ks:=[6],o:=[(11,.cells (cx.cells G3 z).toArray 66 (0,0))],F:=nums 20 (cx.facts G3 z)}) (λK1=>br [K 10 15] (jn (.reg 4) [] (λG1 _ _=>{L:=[(33,.bool G1)],ks:=[1,2,3,6,8]}) (ob (λ_ X2=>bs [K 10 15,I 9 14 cx X2,K 14 0] 24 (ob (λ_ X4=>rt [K 10 15,I 9 16 cx X4,K 16 1])) (rt []))) (kA λ_=>br [] (ob (λ_ X6=>rt [K 10 15,I 9 18 cx X6,K 18 0,Sn 11] {is:=[19]})) (nd (λO1=>rt [wr 15 O1] {is:=[13]})))) (rt [] {is:=[13]})) (kS (kA λ_=>rt [] {is:=[20],rk:=[11,0]}) (kA λ_=>rt [Sn 11,nf 21 8 aj] {is:=[21],rk:=[11,0]})))
def ref25_Of (n:Nat) (d0:dq):Option Int:=bif decide (d0.bW=1) then some (3:Int) else bif decide (d0.bW=2) then some (4:Int) else some (2:Int)
theorem ref25_Of_C (n:Nat) (d0:dq) (z:Zs):oK (cx.facts d0 z) [] 128 [cx.ag d0 z] (ref25_Of n d0) (λr y=>⟨.int .i8 r,[],[]⟩):=
 fn 9 Tryz.func128 (br [bx 1,K 1 7] (rt []) (br [] (rt []) (rt [])))
def uN (n:Nat) (d0:bH) (K1:CD×Int):Option (Lp (CD×Int) CD):=bif decide (K1.2<(d0.am.length:Int)) then(aq d0.am K1.2).bind λX3=>(bif decide (X3.aA=1) then some (true) else bif decide (X3.aA=2) then some (true) else some (decide (X3.aA=3)):Option Bool).bind λG1=>(bif G1 then(qn n d0 K1.2 (0:Int)).bind λX5=>bif X5.2 then(ref25_Of n X5.1).bind λX7=>some (X7) else some (1:Int) else some (0:Int):Option Int).bind λG2=>ar ((K1.1.length+1)*1≤140737488355328)<|ar (inR .i64 (K1.2+1))<|some (.nx (K1.1++[G2],K1.2+1)) else some (.br K1.1)
def kW (n:Nat) (d0:bH):Option CD:=(lO n d0).bind λX1=>bif !X1 then some ([]:CD) else(av (uN n d0) n (([]:CD),(0:Int))).bind λG3=>some (G3)
theorem wg (n:Nat) (d0:bH) (z:Zs):oK (bn.facts d0 z) [] 63 [bn.ag d0 z] (kW n d0) (λr y=>⟨(y 1).sl r.length,[rX 22 1 (y 1) r],[qX 1 (Dat.int .i8) (y 1) r]⟩):=
 fn 49 Tryz.func63 (ob (λ_ X2=>br [bx 10,K 10 0,C (rb n d0) X2 [0,1,2,3,4,5,6,7,8,9] [] 11] (rt [nr 11 12 22 (tI .i8)] {is:=[12],js:=[11]}) (lp [nr 11 12 22 (tI .i8)] {is:=[12],js:=[11]} (λK1 z _=>{L:=[(3,(z 1).sl K1.1.length),(4,.int .i64 K1.2)],ks:=[1],E:=[(14,rX 22 1 (z 1) K1.1)],x:=[11],F:=[(13,qX 1 (Dat.int .i8) (z 1) K1.1)]}) (λG3 z _=>{e:=.exit 0,L:=[(3,(z 1).sl G3.length)],E:=[(24,rX 22 1 (z 1) G3)],x:=[11],F:=[(23,qX 1 (Dat.int .i8) (z 1) G3)]}) (λK1=>br [K 10 14] (ob (λ_ X4=>jn (.reg 9) [K 10 14,I 8 15 dk X4,K 15 1] (λG1 _ _=>{L:=[(34,.bool G1)],ks:=[1,3,4,6]}) (bs [] 27 (rt []) (bs [] 31 (rt []) (rt []))) (kA λ_=>jn .no [] (λG2 _ _=>{L:=[(6,.int .i8 G2)],ks:=[1,3,4]}) (br [] (ob (λX5 X6=>br [K 10 0,C (yE n d0 K1.2 (0:Int)) X6 [0,1,2,3,4,5,6,7,8,9] [] 18,al 19,Sn 19] (ob (λ_ X8=>rt [O 19,C (ref25_Of_C n X5.1) X8 [18] [] 20])) (rt []))) (rt [])) (kA λG2=>nd (λO1=>nd (λO2=>rt [ao 20,lk 20 21 (tI .i8) [(G2,[])],ap (ys:=[G2]) 14 13 21 22 (tI .i8) O1,wr 18 O2] {is:=[22],js:=[14]})))))) (rt [] {is:=[13],js:=[14]})) (kA λ_=>rt [] {is:=[23],js:=[24]}))))
def uk (n:Nat) (d0:bH):Option bH:=((lO n d0).bind λX1=>bif !X1 then some (true) else bif !(decide (d0.aJ=0)) then some (true) else(kV n d0).bind λX3=>some (decide ((0:Int)<(X3.length:Int))):Option Bool).bind λG1=>bif G1 then some (d0) else(kW n d0).bind λX5=>(jc n X5 (4:Int)).bind λX7=>bif decide ((0:Int)<X7) then some (⟨d0.aA,d0.co,d0.bI,d0.ig,d0.be,d0.bG,d0.am,d0.an,(1:Int),d0.cm⟩:bH) else(ue n X5).bind λX9=>bif X9 then some (⟨d0.aA,d0.co,d0.bI,d0.ig,d0.be,d0.bG,d0.am,d0.an,(2:Int),d0.cm⟩:bH) else some (d0)
theorem ref25_Next_C (n:Nat) (d0:bH) (z:Zs):oK (bn.facts d0 z) [] 22 [bn.ag d0 z] (uk n d0) (λr y=>⟨bn.ag r y,[],bn.facts r y⟩):=
 fn 29 Tryz.func22 (jn (.reg 1) [al 10,al 11] (λG1 _ _=>{L:=[(17,.bool G1)],ks:=[1,2]}) (ob (λ_ X2=>bs [O 10,C (rb n d0) X2 [0,1,2,3,4,5,6,7,8,9] [] 12] 7 (rt []) (bs [O 10] 12 (rt []) (ob (λ_ X4=>rt [O 10,C (qm n d0) X4 [0,1,2,3,4,5,6,7,8,9] [] 12]))))) (kA λ_=>br [] (rt [O 10,Sn 11] {is:=[0,1,2,3,4,5,6,7,8,9],rk:=[11]}) (ob (λX5 X6=>ob (λ_ X8=>br [O 10,C (wg n d0) X6 [0,1,2,3,4,5,6,7,8,9] [] 13,CL (mp n X5 (4:Int)) X8 [14] [(13,13,14)]] (rt [S1 10,O 10,Sn 11] {is:=[0,1,2,3,4,5,6,7,8,9],rk:=[11]}) (ob (λ_ X10=>br [CL (ref21_Over_C n X5) X10 [15] [(13,13,15)]] (rt [S1 10,O 10,Sn 11] {is:=[0,1,2,3,4,5,6,7,8,9],rk:=[11]}) (rt [O 10,Sn 11] {is:=[0,1,2,3,4,5,6,7,8,9],rk:=[11]}))))))))
def ra (n:Nat) (d0:bH):Option (List CD):=(qo n d0).bind λX1=>(gp n X1 (false)).bind λX3=>some (X3)
theorem ref25_Leans_C (n:Nat) (d0:bH) (z:Zs):oK (bn.facts d0 z) [] 67 [bn.ag d0 z] (ra n d0) (λr y=>⟨(y 1).sl r.length,[rX 47 1 (y 1) r],[.seq 1 (eL 1 (Dat.int .i64)) r (y 1).k]⟩):=
 fn 6 Tryz.func67 (ob (λX1 X2=>ob (λ_ X4=>rt [bx 10,K 10 0,C (yG n d0) X2 [0,1,2,3,4,5,6,7,8,9] [] 11,C (rV n X1 (false)) X4 [11,12,13,14,15,16,17,18,19,20] [] 21] {is:=[21],js:=[21]})))
def ne (n:Nat) (d0:bH):Option CD:=(kW n d0).bind λX1=>(bif !(decide (d0.aJ=0)) then some (true) else(kV n d0).bind λX3=>bif decide (d0.co≤(X3.length:Int)) then some (true) else(jc n X1 (4:Int)).bind λX5=>some (decide ((0:Int)<X5)):Option Bool).bind λG1=>bif G1 then some ([]:CD) else(ra n d0).bind λX7=>(qW n X7 X1 (false)).bind λX9=>some (X9.1)
theorem xr (n:Nat) (d0:bH) (z:Zs):oK (bn.facts d0 z) [] 23 [bn.ag d0 z] (ne n d0) (λr y=>⟨(y 1).sl r.length,[rX 3 1 (y 1) r],[qX 1 (Dat.int .i64) (y 1) r]⟩):=
 fn 32 Tryz.func23 (ob (λX1 X2=>jn (.reg 2) [bx 10,K 10 0,C (wg n d0) X2 [0,1,2,3,4,5,6,7,8,9] [] 11] (λG1 _ _=>{L:=[(23,.bool G1)],ks:=[1,3]}) (bh (.reg 2) [] (λB1=>rt [ch [] [(11,⟨cB B1⟩)],K 10 16,cd true,cd true,cd true,cd true]) (λB1=>ob (λ_ X4=>bh (.reg 2) [] (λB2=>rt [ch [] [(11,⟨cB B1⟩),(19,⟨cB B2⟩)],K 10 16,K 10 0,C (qm n d0) X4 [0,1,2,3,4,5,6,7,8,9] [] 12,K 10 1,cd true]) (λB2=>ob (λ_ X6=>rt [ch [] [(11,⟨cB B1⟩),(19,⟨cB B2⟩)],K 10 16,K 10 0,C (qm n d0) X4 [0,1,2,3,4,5,6,7,8,9] [] 12,K 10 1,CL (mp n X1 (4:Int)) X6 [13] [(11,11,13)]]))))) (kA λ_=>br [] (rt [nr 14 15 3 (tI .i64)] {is:=[15],js:=[14]}) (ob (λX7 X8=>ob (λ_ X10=>rt [K 10 0,C (ref25_Leans_C n d0) X8 [0,1,2,3,4,5,6,7,8,9] [] 14,ri 14 14 15,ri 11 11 16,C (ref21_Ready_C n X7 X1 (false)) X10 [15,16] [] 17] {is:=[17],js:=[17]}))))))
def wD (n:Nat) (d0:bH) (d1:Int) (d2:TE0):Option (bH×Int):=((lO n d0).bind λX1=>bif !X1 then some (true) else some (!d2.Ci):Option Bool).bind λG1=>bif G1 then some ((⟨(0:Int),(0:Int),je,gG,([]:Bs),([]:Cp),([]:Cv),([]:Cx),(0:Int),(0:Int)⟩:bH),(2:Int)) else(bif decide (d1<1) then some (true) else some (decide ((d0.an.length:Int)<d1)):Option Bool).bind λG2=>bif G2 then some ((⟨(0:Int),(0:Int),je,gG,([]:Bs),([]:Cp),([]:Cv),([]:Cx),(0:Int),(0:Int)⟩:bH),(4:Int)) else ar (inR .i64 (d1-1))<|(aq d0.an (d1-1)).bind λX3=>bif !(decide (X3.bW=0)) then some ((⟨(0:Int),(0:Int),je,gG,([]:Bs),([]:Cp),([]:Cv),([]:Cx),(0:Int),(0:Int)⟩:bH),(110:Int)) else ar ((([]:Cx).length+d0.an.length)*112≤140737488355328)<|ar (inR .i64 (d1-1))<|(aq (([]:Cx)++d0.an) (d1-1)).bind λX5=>(bif d2.Co then some ((1:Int),d2.bm) else some ((2:Int),X5.bm):Option (Int×Bs)).bind λG3=>ar (inR .i64 (d1-1))<|(aq (([]:Cx)++d0.an) (d1-1)).bind λX7=>some ((⟨d0.aA,d0.co,d0.bI,d0.ig,d0.be,d0.bG,d0.am,(([]:Cx)++d0.an).set (d1-1).toNat (⟨X5.aX,X5.aJ,X5.cP,G3.1,G3.2⟩:dq),d0.aJ,d0.cm⟩:bH),(0:Int))
set_option maxRecDepth 20000 in
theorem ref25_End_C (n:Nat) (d0:bH) (d1:Int) (d2:TE0) (z:Zs):oK (bn.facts d0 z) [] 25 [bn.ag d0 z,.int .i64 d1,Y_TE0.ag d2 (sh 10 z)] (wD n d0 d1 d2) (λr y=>⟨.tuple #[bn.ag r.1 y,.int .i64 r.2],[],bn.facts r.1 y⟩):=
 fn 62 Tryz.func25 (jn (.reg 1) [al 10,bx 11,al 12] (λG1 _ _=>{L:=[(17,.bool G1)],ks:=[1,3,5,6]}) (ob (λ_ X2=>bs [O 10,C (rb n d0) X2 [0,1,2,3,4,5,6,7,8,9] [] 13] 13 (rt []) (rt [K 11 0]))) (kA λ_=>br [] (rt [Sn 12,nf 13 6 aK,nf 14 6 aK,nf 15 6 aK,nf 16 8 aj,nf 17 8 aj,nf 18 7 aT,nf 19 11 aS,nf 20 8 aj,nf 21 8 bi,nf 22 9 bF] {is:=[13,14,15,16,17,18,19,20,21,22],rk:=[12,0]}) (jn (.reg 3) [] (λG2 _ _=>{L:=[(27,.bool G2)],ks:=[1,3,5,6]}) (bs [] 21 (rt []) (rt [O 10])) (kA λ_=>br [] (rt [Sn 12,nf 13 6 aK,nf 14 6 aK,nf 15 6 aK,nf 16 8 aj,nf 17 8 aj,nf 18 7 aT,nf 19 11 aS,nf 20 8 aj,nf 21 8 bi,nf 22 9 bF] {is:=[13,14,15,16,17,18,19,20,21,22],rk:=[12,0]}) (nd (λO1=>ob (λ_ X4=>br [O 10,wr 32 O1,I 9 13 cx X4,K 13 7] (rt [Sn 12,nf 15 6 aK,nf 16 6 aK,nf 17 6 aK,nf 18 8 aj,nf 19 8 aj,nf 20 7 aT,nf 21 11 aS,nf 22 8 aj,nf 23 8 bi,nf 24 9 bF] {is:=[15,16,17,18,19,20,21,22,23,24],rk:=[12,0]}) (nd (λO2=>nd (λO3=>ob (λX5 X6=>jn .no [O 10,nr 15 16 66 cx,ap 15 16 9 17 cx O2,wr 44 O3,Re 15 17 18 cx X6,X 19,Rd 15 18 0,al 21,Sn 21,S1 21,K 11 1] (λG3 _ _=>{ks:=[1,3,6,8,9],m:=[(21,7,.int .i8 G3.1),(21,8,S G3.2)]}) (br [] (rt [S1 21,K 11 2,S1 21]) (rt [])) (kA λG3=>nd (λO4=>ob (λ_ X8=>rt [wr 56 O4,O 21,Re 15 17 22 cx X8,X 23,Sr 15 17 23 25 cx X8 (⟨X5.aX,X5.aJ,X5.cP,G3.1,G3.2⟩:dq) [20] [8,54],S1 10,O 10,ri 15 25 26,Sn 12] {is:=[0,1,2,3,4,5,6,7,8,26],rk:=[12,0]}))))))))))))))
end Go.Proofs.YtkmbfmdhoeibhaaGreat
end
section
namespace Go.Proofs
open Go.Shelf
def Tryz.lays125_ren:Go.Shelf.Ren:=⟨λ |125=>144|128=>201|129=>202|n=>n,λ |46=>257|3=>3|51=>306|53=>308|4=>4|5=>5|9=>9|n=>n,λ |n=>n⟩
theorem Tryz.lays125:Go.Proofs.Lays.n125 Tryz.prog Tryz.lays125_ren:={
 mixed:=by kernel_rfl
 f125:=Tryz.func144.trans (congrArg some kr)
 f128:=Tryz.func201.trans (congrArg some kr)
 f129:=Tryz.func202.trans (congrArg some kr)
 t3:=Tryz.underlying3
 a3:=Tryz.isAgg3
 z3:=Tryz.sizeOf3
 v3:=Tryz.zeroValue3
 t4:=Tryz.underlying4
 a4:=Tryz.isAgg4
 z4:=Tryz.sizeOf4
 v4:=Tryz.zeroValue4
 t5:=Tryz.underlying5
 a5:=Tryz.isAgg5
 z5:=Tryz.sizeOf5
 v5:=Tryz.zeroValue5
 t9:=Tryz.underlying9
 a9:=Tryz.isAgg9
 z9:=Tryz.sizeOf9
 v9:=Tryz.zeroValue9
 t46:=Tryz.underlying257
 a46:=Tryz.isAgg257
 z46:=Tryz.sizeOf257
 v46:=Tryz.zeroValue257
 t51:=Tryz.underlying306
 a51:=Tryz.isAgg306
 z51:=Tryz.sizeOf306
 v51:=Tryz.zeroValue306
 t53:=Tryz.underlying308
 a53:=Tryz.isAgg308
 z53:=Tryz.sizeOf308
 v53:=Tryz.zeroValue308}
theorem Tryz.bits_Len (x:Int) (w:World) (h0:0≤x) (h1:x≤18446744073709551615):
 Calls Tryz.prog 144 #[.int .u64 x] w λe w'=>e=.returned (.int .i64 (Lib.bitLen x.toNat))∧w'=w:=Any.bits_Len Tryz.lays125 x w h0 h1
def Tryz.lays189_ren:Go.Shelf.Ren:=⟨λ |189=>80|125=>144|257=>143|128=>201|129=>202|294=>192|295=>193|296=>194|297=>195|298=>196|299=>197|216=>198|300=>199|301=>200|328=>229|329=>230|330=>231|331=>232|332=>233|215=>234|343=>268|n=>n,λ |28=>47|3=>3|46=>257|0=>0|51=>306|53=>308|4=>4|183=>299|182=>298|131=>86|5=>5|9=>9|218=>336|222=>340|228=>364|229=>196|n=>n,λ |n=>n⟩
theorem Tryz.lays189:Go.Proofs.Lays.n189 Tryz.prog Tryz.lays189_ren:={
 mixed:=by kernel_rfl
 f125:=Tryz.func144.trans (congrArg some kr)
 f128:=Tryz.func201.trans (congrArg some kr)
 f129:=Tryz.func202.trans (congrArg some kr)
 f189:=Tryz.func80.trans (congrArg some kr)
 f215:=Tryz.func234.trans (congrArg some kr)
 f216:=Tryz.func198.trans (congrArg some kr)
 f257:=Tryz.func143.trans (congrArg some kr)
 f294:=Tryz.func192.trans (congrArg some kr)
 f295:=Tryz.func193.trans (congrArg some kr)
 f296:=Tryz.func194.trans (congrArg some kr)
 f297:=Tryz.func195.trans (congrArg some kr)
 f298:=Tryz.func196.trans (congrArg some kr)
 f299:=Tryz.func197.trans (congrArg some kr)
 f300:=Tryz.func199.trans (congrArg some kr)
 f301:=Tryz.func200.trans (congrArg some kr)
 f328:=Tryz.func229.trans (congrArg some kr)
 f329:=Tryz.func230.trans (congrArg some kr)
 f330:=Tryz.func231.trans (congrArg some kr)
 f331:=Tryz.func232.trans (congrArg some kr)
 f332:=Tryz.func233.trans (congrArg some kr)
 f343:=Tryz.func268.trans (congrArg some kr)
 t0:=Tryz.underlying0
 a0:=Tryz.isAgg0
 z0:=Tryz.sizeOf0
 v0:=Tryz.zeroValue0
 t3:=Tryz.underlying3
 a3:=Tryz.isAgg3
 z3:=Tryz.sizeOf3
 v3:=Tryz.zeroValue3
 t4:=Tryz.underlying4
 a4:=Tryz.isAgg4
 z4:=Tryz.sizeOf4
 v4:=Tryz.zeroValue4
 t5:=Tryz.underlying5
 a5:=Tryz.isAgg5
 z5:=Tryz.sizeOf5
 v5:=Tryz.zeroValue5
 t9:=Tryz.underlying9
 a9:=Tryz.isAgg9
 z9:=Tryz.sizeOf9
 v9:=Tryz.zeroValue9
 t28:=Tryz.underlying47
 a28:=Tryz.isAgg47
 z28:=Tryz.sizeOf47
 v28:=Tryz.zeroValue47
 t46:=Tryz.underlying257
 a46:=Tryz.isAgg257
 z46:=Tryz.sizeOf257
 v46:=Tryz.zeroValue257
 t51:=Tryz.underlying306
 a51:=Tryz.isAgg306
 z51:=Tryz.sizeOf306
 v51:=Tryz.zeroValue306
 t53:=Tryz.underlying308
 a53:=Tryz.isAgg308
 z53:=Tryz.sizeOf308
 v53:=Tryz.zeroValue308
 t131:=Tryz.underlying86
 a131:=Tryz.isAgg86
 z131:=Tryz.sizeOf86
 v131:=Tryz.zeroValue86
 t182:=Tryz.underlying298
 a182:=Tryz.isAgg298
 z182:=Tryz.sizeOf298
 v182:=Tryz.zeroValue298
 t183:=Tryz.underlying299
 a183:=Tryz.isAgg299
 z183:=Tryz.sizeOf299
 v183:=Tryz.zeroValue299
 t218:=Tryz.underlying336
 a218:=Tryz.isAgg336
 z218:=Tryz.sizeOf336
 v218:=Tryz.zeroValue336
 t222:=Tryz.underlying340
 a222:=Tryz.isAgg340
 z222:=Tryz.sizeOf340
 v222:=Tryz.zeroValue340
 t228:=Tryz.underlying364
 a228:=Tryz.isAgg364
 z228:=Tryz.sizeOf364
 v228:=Tryz.zeroValue364
 t229:=Tryz.underlying196
 a229:=Tryz.isAgg196
 z229:=Tryz.sizeOf196
 v229:=Tryz.zeroValue196}
open Go.Sort Go.RowKit in
theorem Tryz.slices_Sort_int (blk off cap:Nat) (zs:CD) (w:World) (hH:Holds (Value.int .i64) w blk off zs.toArray) (hblk:blk<w.heap.size) (hsz:zs.length<4611686018427387904):
 Calls Tryz.prog 80 #[.slice (some ⟨blk,off,none⟩) zs.length cap] w λe w'=>
  e=.returned (.tuple #[])∧∃n os,w'=grow (putRow (Value.int .i64) (Sort.ahead w n) blk off (zs.mergeSort λx y=>decide (x≤y)).toArray) os:=Any.slices_Sort_int Tryz.lays189 blk off cap zs w hH hblk hsz
def Tryz.lays190_ren:Go.Shelf.Ren:=⟨λ |190=>146|125=>144|258=>203|128=>201|129=>202|302=>235|303=>236|304=>237|305=>238|306=>239|307=>240|308=>241|309=>242|310=>243|333=>269|329=>230|330=>231|334=>270|335=>271|336=>272|344=>281|n=>n,λ |31=>58|9=>9|3=>3|46=>257|0=>0|51=>306|53=>308|4=>4|183=>299|182=>298|131=>86|5=>5|218=>336|222=>340|228=>364|229=>196|n=>n,λ |n=>n⟩
theorem Tryz.lays190:Go.Proofs.Lays.n190 Tryz.prog Tryz.lays190_ren:={
 mixed:=by kernel_rfl
 f125:=Tryz.func144.trans (congrArg some kr)
 f128:=Tryz.func201.trans (congrArg some kr)
 f129:=Tryz.func202.trans (congrArg some kr)
 f190:=Tryz.func146.trans (congrArg some kr)
 f258:=Tryz.func203.trans (congrArg some kr)
 f302:=Tryz.func235.trans (congrArg some kr)
 f303:=Tryz.func236.trans (congrArg some kr)
 f304:=Tryz.func237.trans (congrArg some kr)
 f305:=Tryz.func238.trans (congrArg some kr)
 f306:=Tryz.func239.trans (congrArg some kr)
 f307:=Tryz.func240.trans (congrArg some kr)
 f308:=Tryz.func241.trans (congrArg some kr)
 f309:=Tryz.func242.trans (congrArg some kr)
 f310:=Tryz.func243.trans (congrArg some kr)
 f329:=Tryz.func230.trans (congrArg some kr)
 f330:=Tryz.func231.trans (congrArg some kr)
 f333:=Tryz.func269.trans (congrArg some kr)
 f334:=Tryz.func270.trans (congrArg some kr)
 f335:=Tryz.func271.trans (congrArg some kr)
 f336:=Tryz.func272.trans (congrArg some kr)
 f344:=Tryz.func281.trans (congrArg some kr)
 t0:=Tryz.underlying0
 a0:=Tryz.isAgg0
 z0:=Tryz.sizeOf0
 v0:=Tryz.zeroValue0
 t3:=Tryz.underlying3
 a3:=Tryz.isAgg3
 z3:=Tryz.sizeOf3
 v3:=Tryz.zeroValue3
 t4:=Tryz.underlying4
 a4:=Tryz.isAgg4
 z4:=Tryz.sizeOf4
 v4:=Tryz.zeroValue4
 t5:=Tryz.underlying5
 a5:=Tryz.isAgg5
 z5:=Tryz.sizeOf5
 v5:=Tryz.zeroValue5
 t9:=Tryz.underlying9
 a9:=Tryz.isAgg9
 z9:=Tryz.sizeOf9
 v9:=Tryz.zeroValue9
 t31:=Tryz.underlying58
 a31:=Tryz.isAgg58
 z31:=Tryz.sizeOf58
 v31:=Tryz.zeroValue58
 t46:=Tryz.underlying257
 a46:=Tryz.isAgg257
 z46:=Tryz.sizeOf257
 v46:=Tryz.zeroValue257
 t51:=Tryz.underlying306
 a51:=Tryz.isAgg306
 z51:=Tryz.sizeOf306
 v51:=Tryz.zeroValue306
 t53:=Tryz.underlying308
 a53:=Tryz.isAgg308
 z53:=Tryz.sizeOf308
 v53:=Tryz.zeroValue308
 t131:=Tryz.underlying86
 a131:=Tryz.isAgg86
 z131:=Tryz.sizeOf86
 v131:=Tryz.zeroValue86
 t182:=Tryz.underlying298
 a182:=Tryz.isAgg298
 z182:=Tryz.sizeOf298
 v182:=Tryz.zeroValue298
 t183:=Tryz.underlying299
 a183:=Tryz.isAgg299
 z183:=Tryz.sizeOf299
 v183:=Tryz.zeroValue299
 t218:=Tryz.underlying336
 a218:=Tryz.isAgg336
 z218:=Tryz.sizeOf336
 v218:=Tryz.zeroValue336
 t222:=Tryz.underlying340
 a222:=Tryz.isAgg340
 z222:=Tryz.sizeOf340
 v222:=Tryz.zeroValue340
 t228:=Tryz.underlying364
 a228:=Tryz.isAgg364
 z228:=Tryz.sizeOf364
 v228:=Tryz.zeroValue364
 t229:=Tryz.underlying196
 a229:=Tryz.isAgg196
 z229:=Tryz.sizeOf196
 v229:=Tryz.zeroValue196}
open Go.Sort Go.RowKit in
theorem Tryz.slices_Sort_string (blk off cap:Nat) (ss:List Bs) (w:World) (hH:Holds encStr w blk off ss.toArray) (hblk:blk<w.heap.size) (hsz:ss.length<4611686018427387904):
 Calls Tryz.prog 146 #[.slice (some ⟨blk,off,none⟩) ss.length cap] w λe w'=>
  e=.returned (.tuple #[])∧∃n os,w'=grow (putRow encStr (Sort.ahead w n) blk off (ss.mergeSort λx y=>decide (x≤y)).toArray) os:=Any.slices_Sort_string Tryz.lays190 blk off cap ss w hH hblk hsz
def Tryz.laysNm220_ren:Go.Shelf.Ren:=⟨λ |20=>81|n=>n,λ |22=>47|3=>3|4=>4|0=>0|n=>n,λ |n=>n⟩
theorem Tryz.laysNm220:Go.Proofs.Lays2.n20 Tryz.prog Tryz.laysNm220_ren:={
 mixed:=by kernel_rfl
 f20:=Tryz.func81.trans (congrArg some kr)
 t0:=Tryz.underlying0
 a0:=Tryz.isAgg0
 z0:=Tryz.sizeOf0
 v0:=Tryz.zeroValue0
 t3:=Tryz.underlying3
 a3:=Tryz.isAgg3
 z3:=Tryz.sizeOf3
 v3:=Tryz.zeroValue3
 t4:=Tryz.underlying4
 a4:=Tryz.isAgg4
 z4:=Tryz.sizeOf4
 v4:=Tryz.zeroValue4
 t22:=Tryz.underlying47
 a22:=Tryz.isAgg47
 z22:=Tryz.sizeOf47
 v22:=Tryz.zeroValue47
 i3:=by kernel_rfl}
open Go.RowKit Go.Lib Go.Sort in
theorem Tryz.slices_Compact_int (blk off cap:Nat) (zs:CD) (w:World) (hH:Holds (Value.int .i64) w blk off zs.toArray) (hsz:zs.length≤9223372036854775807) (hcap:zs.length≤cap):
 Calls Tryz.prog 81 #[.slice (some ⟨blk,off,none⟩) zs.length cap] w λe w'=>e=.returned (.slice (some ⟨blk,off,none⟩) (Lib.compact zs).length cap)∧∃q,w'=putRow (Value.int .i64) (Sort.ahead w q) blk off (Lib.compact zs++List.replicate (zs.length- (Lib.compact zs).length) 0).toArray:=Any.slices_Compact_int Tryz.laysNm220 blk off cap zs w hH hsz hcap
open Go.RowKit Go.Lib Go.Sort in
theorem Tryz.slices_Compact_int_empty (a:Oa) (cap:Nat) (w:World):
 Calls Tryz.prog 81 #[.slice a 0 cap] w λe w'=>e=.returned (.slice a 0 cap)∧w'=w:=Any.slices_Compact_int_empty Tryz.laysNm220 a cap w
def Tryz.lays194_ren:Go.Shelf.Ren:=⟨λ |194=>148|n=>n,λ |31=>58|9=>9|3=>3|4=>4|0=>0|n=>n,λ |n=>n⟩
theorem Tryz.lays194:Go.Proofs.Lays.n194 Tryz.prog Tryz.lays194_ren:={
 mixed:=by kernel_rfl
 f194:=Tryz.func148.trans (congrArg some kr)
 t0:=Tryz.underlying0
 a0:=Tryz.isAgg0
 z0:=Tryz.sizeOf0
 v0:=Tryz.zeroValue0
 t3:=Tryz.underlying3
 a3:=Tryz.isAgg3
 z3:=Tryz.sizeOf3
 v3:=Tryz.zeroValue3
 t4:=Tryz.underlying4
 a4:=Tryz.isAgg4
 z4:=Tryz.sizeOf4
 v4:=Tryz.zeroValue4
 t9:=Tryz.underlying9
 a9:=Tryz.isAgg9
 z9:=Tryz.sizeOf9
 v9:=Tryz.zeroValue9
 t31:=Tryz.underlying58
 a31:=Tryz.isAgg58
 z31:=Tryz.sizeOf58
 v31:=Tryz.zeroValue58}
open Go.RowKit Go.Lib Go.Sort in
theorem Tryz.slices_Compact_string (blk off cap:Nat) (zs:List Bs) (w:World) (hH:Holds encStr w blk off zs.toArray) (hsz:zs.length≤9223372036854775807) (hcap:zs.length≤cap):
 Calls Tryz.prog 148 #[.slice (some ⟨blk,off,none⟩) zs.length cap] w λe w'=>e=.returned (.slice (some ⟨blk,off,none⟩) (Lib.compact zs).length cap)∧∃q,w'=putRow encStr (Sort.ahead w q) blk off (Lib.compact zs++List.replicate (zs.length- (Lib.compact zs).length) []).toArray:=Any.slices_Compact_string Tryz.lays194 blk off cap zs w hH hsz hcap
open Go.RowKit Go.Lib Go.Sort in
theorem Tryz.slices_Compact_string_empty (a:Oa) (cap:Nat) (w:World):
 Calls Tryz.prog 148 #[.slice a 0 cap] w λe w'=>e=.returned (.slice a 0 cap)∧w'=w:=Any.slices_Compact_string_empty Tryz.lays194 a cap w
open Go.RowKit Go.Sort in
theorem Tryz.slices_Sort_string_none (p:Oa) (cap:Nat) (w:World):
 Calls Tryz.prog 146 #[.slice p 0 cap] w λe w'=>e=.returned (.tuple #[])∧w'=w:=Any.slices_Sort_string_none Tryz.lays190 p cap w
open Go.RowKit Go.Sort in
theorem Tryz.slices_Sort_int_none (p:Oa) (cap:Nat) (w:World):
 Calls Tryz.prog 80 #[.slice p 0 cap] w λe w'=>e=.returned (.tuple #[])∧w'=w:=Any.slices_Sort_int_none Tryz.lays189 p cap w
end Go.Proofs
end
section
namespace Go.Proofs.YtkmbfmdhoeibhaaGreat
open Go Go.Vc Go.RowKit Go.Sort
instance:DecidableEq bj:=λx y=>decidable_of_iff (x.change=y.change∧x.phase=y.phase) (by cases x;cases y;simp)
def insG {α:Type} (le:α→α→Bool) (x:α):List α→List α|[]=>[x]|y::r=>bif le x y then x::y::r else y::insG le x r
def sortG {α:Type} (le:α→α→Bool):List α→List α|[]=>[]|x::r=>insG le x (sortG le r)
section
variable {α:Type} {le:α→α→Bool}
theorem yS (le:α→α→Bool) (x:α): ∀l,(insG le x l).Perm (x::l)
 |[]=>List.Perm.refl _
 |y::r=>by
  unfold insG
  cases le x y with
  |true=>exact List.Perm.refl _
  |false=>exact((yS le x r).cons y).trans (List.Perm.swap x y r)
theorem qr (le:α→α→Bool): ∀l,(sortG le l).Perm l
 |[]=>List.Perm.refl _
 |x::r=>(yS le x _).trans ((qr le r).cons x)
theorem oQ (le:α→α→Bool) (l:List α): (sortG le l).length=l.length:=(qr le l).length_eq
theorem zB (ht: ∀a b c,le a b=true→le b c=true→le a c=true) (hn: ∀a b,le a b=true∨le b a=true) (x:α): ∀l,l.Pairwise (λa b=>le a b=true)→(insG le x l).Pairwise (λa b=>le a b=true)
 |[],_=>by simp[insG]
 |y::r,h=>by
  obtain⟨h1,h2⟩:=List.pairwise_cons.1 h
  unfold insG
  cases hxy:le x y with
  |true=>exact List.pairwise_cons.2 ⟨λz hz=>by
   rcases List.mem_cons.1 hz with rfl|hz
   ·exact hxy
   exact ht _ _ _ hxy (h1 z hz),h⟩
  |false=>
   refine List.pairwise_cons.2 ⟨λz hz=>?_,zB ht hn x r h2⟩
   rcases List.mem_cons.1 ((yS le x r).mem_iff.1 hz) with rfl|hz
   ·exact(hn z y).resolve_left (by simp[hxy])
   exact h1 z hz
theorem yI (ht: ∀a b c,le a b=true→le b c=true→le a c=true) (hn: ∀a b,le a b=true∨le b a=true): ∀l,(sortG le l).Pairwise (λa b=>le a b=true)
 |[]=>List.Pairwise.nil
 |x::r=>zB ht hn x _ (yI ht hn r)
theorem sortG_eq (ht: ∀a b c,le a b=true→le b c=true→le a c=true) (hn: ∀a b,le a b=true∨le b a=true) (ha: ∀a b,le a b=true→le b a=true→a=b) (l:List α):l.mergeSort le=sortG le l:=
 List.Perm.eq_of_pairwise (le:=λa b=>le a b=true) (λa b _ _ h1 h2=>ha a b h1 h2) (List.pairwise_mergeSort ht (λa b=>by simpa using hn a b) l) (yI ht hn l) ((List.mergeSort_perm l _).trans (qr _ l).symm)
end
def leI (x y:Int):Bool:=decide (x≤y)
def leS (x y:Bs):Bool:=decide (x≤y)
theorem sortI_eq (l:CD):l.mergeSort (λx y=>decide (x≤y))=sortG leI l:=
 sortG_eq (le:=leI) (λa b c h1 h2=>by simp only[leI,decide_eq_true_eq] at*;omega) (λa b=>by simp only[leI,decide_eq_true_eq];omega) (λa b h1 h2=>by simp only[leI,decide_eq_true_eq] at*;omega) l
theorem sortS_eq (l:List Bs):l.mergeSort (λx y=>decide (x≤y))=sortG leS l:=
 sortG_eq (le:=leS) (λa b c h1 h2=>by simp only[leS,decide_eq_true_eq] at*;exact List.le_trans h1 h2) (λa b=>by simp only[leS,decide_eq_true_eq];exact List.le_total a b) (λa b h1 h2=>by simp only[leS,decide_eq_true_eq] at*;exact List.le_antisymm h1 h2) l
theorem comp_le {α:Type} [Inhabited α] [DecidableEq α] (l:List α): (Lib.compact l).length≤l.length:=by
 unfold Lib.compact Lib.compactUpTo
 rw[List.length_map]
 exact Nat.le_trans (List.length_filter_le _ _) (by simp)
def ta (_:Nat) (d:CD):Option CD:=ar (d.length<4611686018427387904) (some (sortG leI d))
variable (n:Nat)
theorem h_SortI_ok (M:Mem) (A:Oa) (cap:Nat) (d:CD) (cs:Lv) (hr:au M (d.map (Dat.int .i64)) cs) (r:CD) (hF:ta n d=some r):
 OkH Tryz.prog M [.row 3 1 (sL A d cap) d.length cs] 80 [sL A d cap] λM' E' v=>∃s,v=.tuple #[]∧E'=[.row 3 1 (sL A d cap) r.length s]∧au M' (r.map (Dat.int .i64)) s∧r.length=d.length:=by
 unfold ta at hF
 obtain⟨g0,hF⟩:=eZ hF
 obtain rfl:=Option.some.inj hF
 have hl:=oQ leI d
 obtain rfl:=xW hr
 intro M2 hM w0 H w hp
 refine(sortRow (P:=Tryz.prog) (f:=80) (e:=3) (enc:=Value.int .i64) (zs:=d) (ys:=sortG leI d) hl (λblk off cap w hH hb=>by have:=Tryz.slices_Sort_int blk off cap d w hH hb g0;rwa [sortI_eq] at this) (λ_ M=>Ok.ofPure λw=>Tryz.slices_Sort_int_none none 0 w) M (sL A d cap) M2 hM w0 H w hp).mono λ_ w' ⟨v,he,M',E',h1,h2,h3,h4⟩=>⟨v,he,M',E',h1,h2,_,h3,by rw[hl];exact h4,vm _,hl⟩
def tb (_:Nat) (d:List Bs):Option (List Bs):=ar (d.length<4611686018427387904) (some (sortG leS d))
theorem h_SortS_ok (M:Mem) (A:Oa) (cap:Nat) (d:List Bs) (cs:Lv) (hr:au M (d.map Dat.str) cs) (r:List Bs) (hF:tb n d=some r):
 OkH Tryz.prog M [.row 9 1 (sL A d cap) d.length cs] 146 [sL A d cap] λM' E' v=>∃s,v=.tuple #[]∧E'=[.row 9 1 (sL A d cap) r.length s]∧au M' (r.map Dat.str) s∧r.length=d.length:=by
 unfold tb at hF
 obtain⟨g0,hF⟩:=eZ hF
 obtain rfl:=Option.some.inj hF
 have hl:=oQ leS d
 obtain rfl:=strs_eq_ hr
 intro M2 hM w0 H w hp
 refine(sortRow (P:=Tryz.prog) (f:=146) (e:=9) (enc:=S) (zs:=d) (ys:=sortG leS d) hl (λblk off cap w hH hb=>by have:=Tryz.slices_Sort_string blk off cap d w hH hb g0;rwa [sortS_eq] at this) (λ_ M=>Ok.ofPure λw=>Tryz.slices_Sort_string_none none 0 w) M (sL A d cap) M2 hM w0 H w hp).mono λ_ w' ⟨v,he,M',E',h1,h2,h3,h4⟩=>⟨v,he,M',E',h1,h2,_,h3,by rw[hl];exact h4,strs_rep _,hl⟩
def oZ (_:Nat) (d:CD):Option CD:=ar (d.length<4611686018427387904) (some (Lib.compact d))
theorem h_CompactI_ok (M:Mem) (A:Oa) (cap:Nat) (d:CD) (cs:Lv) (hr:au M (d.map (Dat.int .i64)) cs) (r:CD) (hF:oZ n d=some r):
 OkH Tryz.prog M [.row 3 1 (sL A d cap) d.length cs] 81 [sL A d cap] λM' E' v=>∃s,v=sL A r cap∧E'=[.row 3 1 (sL A r cap) r.length s]∧au M' (r.map (Dat.int .i64)) s:=by
 unfold oZ at hF
 obtain⟨g0,hF⟩:=eZ hF
 obtain rfl:=Option.some.inj hF
 obtain rfl:=xW hr
 intro M2 hM w0 H w hp
 refine(compactRow (P:=Tryz.prog) (f:=81) (e:=3) (enc:=Value.int .i64) (zs:=d) 0 (λblk off cap w hH hc=>Tryz.slices_Compact_int blk off cap d w hH (by omega) hc) (λa cap w=>Tryz.slices_Compact_int_empty a cap w) (comp_le d) M A cap M2 hM w0 H w hp).mono λ_ w' ⟨v,he,M',E',h1,h2,h3,h4⟩=>⟨v,he,M',E',h1,h2,_,h3,h4,vm _⟩
def pc (_:Nat) (d:List Bs):Option (List Bs):=ar (d.length<4611686018427387904) (some (Lib.compact d))
theorem h_CompactS_ok (M:Mem) (A:Oa) (cap:Nat) (d:List Bs) (cs:Lv) (hr:au M (d.map Dat.str) cs) (r:List Bs) (hF:pc n d=some r):
 OkH Tryz.prog M [.row 9 1 (sL A d cap) d.length cs] 148 [sL A d cap] λM' E' v=>∃s,v=sL A r cap∧E'=[.row 9 1 (sL A r cap) r.length s]∧au M' (r.map Dat.str) s:=by
 unfold pc at hF
 obtain⟨g0,hF⟩:=eZ hF
 obtain rfl:=Option.some.inj hF
 obtain rfl:=strs_eq_ hr
 intro M2 hM w0 H w hp
 refine(compactRow (P:=Tryz.prog) (f:=148) (e:=9) (enc:=S) (zs:=d) [] (λblk off cap w hH hc=>Tryz.slices_Compact_string blk off cap d w hH (by omega) hc) (λa cap w=>Tryz.slices_Compact_string_empty a cap w) (comp_le d) M A cap M2 hM w0 H w hp).mono λ_ w' ⟨v,he,M',E',h1,h2,h3,h4⟩=>⟨v,he,M',E',h1,h2,_,h3,h4,strs_rep _⟩
end Go.Proofs.YtkmbfmdhoeibhaaGreat
end
section
namespace Go.Proofs.YtkmbfmdhoeibhaaGreat
open Go Go.Vc Go.RowKit Go.Ck
section
variable {σ β α:Type}
def backS (Y:σ→Int×α→Option (Lp σ β)) (xs:List α) (s:Int×σ):Option (Lp (Int×σ) (Lp σ β)):=bif decide (0≤s.1) then(aq xs s.1).bind λx=>(Y s.2 (s.1,x)).bind λr=>match r with|.nx s'=>ar (inR .i64 (s.1-1)) (some (.nx (s.1-1,s')))|.br b=>some (.br (.br b)) else some (.br (.nx s.2))
def backR (xs:List α) {σ β:Type} (Y:σ→Int×α→Option (Lp σ β)) (s0:σ):Option (Lp σ β):=ar (inR .i64 ((xs.length:Int)-1)) ((av (backS Y xs) (xs.length+1) ((xs.length:Int)-1,s0)).bind λr=>some r)
theorem back_loop {xs:List α} (hl:xs.length≤9223372036854775806) {Y:σ→Int×α→Option (Lp σ β)} {r:Lp σ β}: ∀ (k:Nat) (s:σ),k≤xs.length→iN Y (backI (xs.take k)) s=some r→av (backS Y xs) (k+1) ((k:Int)-1,s)=some r
 |0,s,_,h=>by
  have h: (some (.nx s):Option (Lp σ β))=some r:=h
  show((backS Y xs (((0:Nat):Int)-1,s)).bind _)=_
  unfold backS
  rw[dF (by simp)]
  exact h
 |k+1,s,hk,h=>by
  rw[back_take hk] at h
  obtain⟨r1,h1,h2⟩:=Option.bind_eq_some_iff.1 h
  have e: ((k+1:Nat):Int)-1=k:=by omega
  have hg:aq xs (k:Int)=some xs[k]:=by unfold aq;rw[if_pos (by omega)];exact List.getElem?_eq_getElem (by omega)
  show((backS Y xs (((k+1:Nat):Int)-1,s)).bind _)=_
  rw[e]
  unfold backS
  dsimp only
  rw[dT (by omega),cond_true,hg,Option.bind_some,h1,Option.bind_some]
  cases r1 with
  |br b=>exact h2
  |nx s'=>
   dsimp only
   unfold ar
   rw[if_pos (inR_mk.2 ⟨by omega,by omega⟩)]
   exact back_loop hl k s' (by omega) h2
theorem back_fold {xs:List α} (hl:xs.length≤9223372036854775806) {Y:σ→Int×α→Option (Lp σ β)} {s0:σ} {r:Lp σ β} (h:iN Y (backI xs) s0=some r):backR xs Y s0=some r:=by
 unfold backR ar
 rw[if_pos (inR_mk.2 ⟨by omega,by omega⟩),back_loop hl xs.length s0 (Nat.le_refl _) (by rw[List.take_length];exact h)]
 rfl
end
theorem backB_it (xs:CD) (hl:xs.length≤9223372036854775806) (z:Zs) (M:Mem) (hF:Fh M [.kn (z 0).ad [.slice (z 1).A xs.length (z 1).c],sX 1 (Dat.int .i8) (z 1) xs]):IterOk Tryz.prog 82 [Pa (z 0).ad] (vals2 (vint .i8)) (backI xs) M:=
 fnY (iI .i8) 19 Tryz.func82 (R:=backR xs) (back_fold hl) (@λσ β Y l J Jx hJ hJx hY s0=>nd λg=>lp [K 1 0,wr 6 g] {is:=[0]} (λs z _=>{L:=[(3,iL s.1)],ks:=[0,1],F:=[(3,.js (z 0).es (J s.2))],B:=some (z 0).es}) (λr z _=>match r with
  |.nx s=>{e:=.exit 0,F:=[(3,.js (z 0).es (J s))],B:=some (z 0).es}
  |.br b=>{e:=.ret,F:=[(3,.js (z 0).es (Jx b))],B:=some (z 0).es}) (λs=>br [] (ob λx hx=>yl (iI .i8) hJ hJx hY 3 6 [K 1 0,I 2 4 (tI .i8) hx,K 4 0] 3 [] (λs'=>nd λg=>rt [cd false,wr 10 g] {is:=[3]}) λb=>rt [cd true] {is:=[3]}) (rt [] {is:=[3]})) (kL (kA λs=>rt [] {is:=[3]}) (kA λb=>rt [] {is:=[3]})))
  (Go.Proofs.enters_of Tryz.func82 kr rfl) (hF:=hF)
theorem backB_C (xs:CD) (hl:xs.length≤9223372036854775806) (z:Zs):oK [sX 1 (Dat.int .i8) (z 0) xs] [] 35 [wX (z 0) xs] (some ()) (λ_ y=>⟨.func (.func 82) #[] #[.pointer (some (y 0).ad)],[],[.kn (y 0).ad [wX (z 0) xs],.pm (IterOk Tryz.prog 82 [.pointer (some (y 0).ad)] (vals2 (vint .i8)) (backI xs))]⟩):=
 fn 4 Tryz.func35 (rt [bx 1,mk (backB_it xs hl) 2 [1,0]] {is:=[1,2]})
theorem backC_it (xs:Cv) (hl:xs.length≤9223372036854775806) (z:Zs) (M:Mem) (hF:Fh M [.kn (z 0).ad [.slice (z 1).A xs.length (z 1).c],sX 8 bi (z 1) xs]):IterOk Tryz.prog 142 [Pa (z 0).ad] (vals2 (vstr bi)) (backI xs) M:=
 fnY (iS dk) 19 Tryz.func142 (R:=backR xs) (back_fold hl) (@λσ β Y l J Jx hJ hJx hY s0=>nd λg=>lp [K 1 0,wr 6 g] {is:=[0]} (λs z _=>{L:=[(3,iL s.1)],ks:=[0,1],F:=[(3,.js (z 0).es (J s.2))],B:=some (z 0).es}) (λr z _=>match r with
  |.nx s=>{e:=.exit 0,F:=[(3,.js (z 0).es (J s))],B:=some (z 0).es}
  |.br b=>{e:=.ret,F:=[(3,.js (z 0).es (Jx b))],B:=some (z 0).es}) (λs=>br [] (ob λx hx=>yl (iS dk) hJ hJx hY 3 6 [K 1 0,I 2 4 dk hx,K 4 0] 3 [5,6] (λs'=>nd λg=>rt [cd false,wr 10 g] {is:=[3]}) λb=>rt [cd true] {is:=[3]}) (rt [] {is:=[3]})) (kL (kA λs=>rt [] {is:=[3]}) (kA λb=>rt [] {is:=[3]})))
  (Go.Proofs.enters_of Tryz.func142 kr rfl) (hF:=hF)
theorem backC_C (xs:Cv) (hl:xs.length≤9223372036854775806) (z:Zs):oK [sX 8 bi (z 0) xs] [] 79 [wX (z 0) xs] (some ()) (λ_ y=>⟨.func (.func 142) #[] #[.pointer (some (y 0).ad)],[],[.kn (y 0).ad [wX (z 0) xs],.pm (IterOk Tryz.prog 142 [.pointer (some (y 0).ad)] (vals2 (vstr bi)) (backI xs))]⟩):=
 fn 4 Tryz.func79 (rt [bx 1,mk (backC_it xs hl) 2 [1,0]] {is:=[1,2]})
variable (n:Nat)
theorem h_SortS_len (d r:List Bs) (h:tb n d=some r):d.length=r.length:=by
 unfold tb at h
 obtain⟨_,h⟩:=eZ h
 obtain rfl:=Option.some.inj h
 exact(oQ leS d).symm
theorem h_SortS_C (d:List Bs) (z:Zs):oK [qX 1 Dat.str (z 1) d] [rX 9 1 (z 1) d] 146 [wX (z 1) d] (tb n d) (λr y=>⟨.tuple #[],[.row 9 1 (wX (z 1) r) r.length (y 0).k],[qX 1 Dat.str (y 0) r]⟩):=λM hF r hr=>
 OkH.to (h_SortS_ok n M (z 1).A (z 1).c d (z 1).k (Fh.seq (sz:=1) hF (by simp)) r hr) λM' E' v ⟨s,h1,h2,h3,h4⟩=>⟨nthZ [{k:=s}],h1,h2.trans (congrArg (λk=>[Ent.row 9 1 ((z 1).sl k) r.length s]) h4.symm),.cons ⟨h3,tS.szd⟩ Fh.nil⟩
theorem h_CompactS_C (d:List Bs) (z:Zs):oK [qX 1 Dat.str (z 1) d] [rX 9 1 (z 1) d] 148 [wX (z 1) d] (pc n d) (λr y=>⟨(z 1).sl r.length,[.row 9 1 (wX (z 1) r) r.length (y 0).k],[qX 1 Dat.str (y 0) r]⟩):=λM hF r hr=>
 OkH.to (h_CompactS_ok n M (z 1).A (z 1).c d (z 1).k (Fh.seq (sz:=1) hF (by simp)) r hr) λM' E' v ⟨s,h1,h2,h3⟩=>⟨nthZ [{k:=s}],h1,h2,.cons ⟨h3,tS.szd⟩ Fh.nil⟩
theorem h_SortI_len (d r:CD) (h:ta n d=some r):d.length=r.length:=by
 unfold ta at h
 obtain⟨_,h⟩:=eZ h
 obtain rfl:=Option.some.inj h
 exact(oQ leI d).symm
theorem h_SortI_C (d:CD) (z:Zs):oK [qX 1 (Dat.int .i64) (z 1) d] [rX 3 1 (z 1) d] 80 [wX (z 1) d] (ta n d) (λr y=>⟨.tuple #[],[.row 3 1 (wX (z 1) r) r.length (y 0).k],[qX 1 (Dat.int .i64) (y 0) r]⟩):=λM hF r hr=>
 OkH.to (h_SortI_ok n M (z 1).A (z 1).c d (z 1).k (Fh.seq (sz:=1) hF (by simp)) r hr) λM' E' v ⟨s,h1,h2,h3,h4⟩=>⟨nthZ [{k:=s}],h1,h2.trans (congrArg (λk=>[Ent.row 3 1 ((z 1).sl k) r.length s]) h4.symm),.cons ⟨h3,(tI .i64).szd⟩ Fh.nil⟩
theorem h_CompactI_C (d:CD) (z:Zs):oK [qX 1 (Dat.int .i64) (z 1) d] [rX 3 1 (z 1) d] 81 [wX (z 1) d] (oZ n d) (λr y=>⟨(z 1).sl r.length,[.row 3 1 (wX (z 1) r) r.length (y 0).k],[qX 1 (Dat.int .i64) (y 0) r]⟩):=λM hF r hr=>
 OkH.to (h_CompactI_ok n M (z 1).A (z 1).c d (z 1).k (Fh.seq (sz:=1) hF (by simp)) r hr) λM' E' v ⟨s,h1,h2,h3⟩=>⟨nthZ [{k:=s}],h1,h2,.cons ⟨h3,(tI .i64).szd⟩ Fh.nil⟩
end Go.Proofs.YtkmbfmdhoeibhaaGreat
end
section
namespace Go.Proofs.YtkmbfmdhoeibhaaGreat
open Go Go.Vc Go.RowKit
open Go.Ck
def wj (n:Nat) (d0:gK) (d1:Bs):Option Bool:=some (decide (d0.ci=d1))
variable (n:Nat)
theorem state_Own_1_C (d0:gK) (d1:Bs) (z:Zs):oK (bN.facts d0 z++[.kn (z 2).ad (tS.cells d1 (sh 3 z))]) [] 88 [bN.ag d0 z,.pointer (some (z 2).ad)] (wj n d0 d1) (λr y=>⟨.bool r,[],[]⟩):=
 fn 8 Tryz.func88 (rt [bx 3,K 3 0,K 2 0])
def dj (d0:CB) (jR:Bs) (K1:Int):Option (Lp Int (Sum Int Unit)):=bif decide (K1<(d0.length:Int)) then(aq d0 K1).bind λX1=>(wj n X1 jR).bind λX3=>bif X3 then some (.br (.inl K1)) else ar (inR .i64 (K1+1))<|some (.nx (K1+1)) else some (.br (.inr ()))
def dC (d0:CB) (jR:Bs):Option Int:=(av (dj n d0 jR) n (0:Int)).bind λQ1=>(match Q1 with|.inl G1=>some (G1)|.inr G2=>some (-1:Int))
theorem km (d0:CB) (jR:Bs) (z:Zs):oK ([sX 6 aK (z 0) d0,.kn (z 1).ad (tS.cells jR (sh 2 z))]) [] 87 [wX (z 0) d0,.func (.func 88) #[] #[.pointer (some (z 1).ad)]] (dC n d0 jR) (λr y=>⟨.int .i64 r,[],[]⟩):=
 fn 19 Tryz.func87 (lp [] {} (λK1 _ _=>{L:=[(8,.int .i64 K1)],ks:=[0,1,7]}) (λx z b=>match x with|.inl G1=>{e:=.ret,L:=[(4,.int .i64 G1)]}|.inr G2=>{e:=.exit 0}) (λK1=>br [] (ob (λX1 X2=>ob (λ_ X4=>br [I 0 2 bN X2,K 2 0,C (state_Own_1_C n X1 jR) X4 [3,4,1] [] 5] (rt []) (nd (λO1=>rt [wr 18 O1]))))) (rt [])) (kS (kA λ_=>rt []) (kA λ_=>rt [])))
def kj (d0:gH) (d1:Bs):Option (gK×Bool):=(dC n d0.aR d1).bind λX1=>bif decide ((0:Int)≤X1) then(aq d0.aR X1).bind λX3=>some (X3,(true)) else some (yK,(false))
theorem wk (d0:gH) (d1:Bs) (z:Zs):oK (ez.facts d0 z) [] 38 [ez.ag d0 z,S d1] (kj n d0 d1) (λr y=>⟨.tuple #[bN.ag r.1 y,.bool r.2],[],bN.facts r.1 y⟩):=
 fn 19 Tryz.func38 (ob (λ_ X2=>br [bx 5,bx 6,al 7,K 5 0,C (km n d0.aR d1) X2 [0,6] [] 8] (ob (λ_ X4=>rt [K 5 0,I 0 8 bN X4,K 8 0,Sn 7] {is:=[9,10],rk:=[7,0]})) (rt [O 7,Sn 7,nf 8 8 aj,nf 9 1 Dat.str] {is:=[8,9],rk:=[7,0]})))
def yU (n:Nat) (d0:Bs) (d1:Bs) (d2:List Bs):Option gK:=some (⟨d0,[68,105,115,107],d1,([]:Cp),(false),d2⟩:gK)
theorem zC (d0:Bs) (d1:Bs) (d2:List Bs) (z:Zs):oK ([sX 1 Dat.str (z 0) d2]) [] 27 [S d0,S d1,wX (z 0) d2] (yU n d0 d1 d2) (λr y=>⟨bN.ag r y,[],bN.facts r y⟩):=
 fn 11 Tryz.func27 (rt [al 1,Sn 1,nf 2 8 aj] {is:=[2,0],rk:=[1]})
def qw (n:Nat) (d0:bH) (K1:CD×Int):Option (Lp (CD×Int) CD):=bif decide (K1.2<(d0.an.length:Int)) then(aq d0.an K1.2).bind λX1=>bif decide (X1.bW=0) then ar ((K1.1.length+1)*8≤140737488355328)<|ar (inR .i64 (K1.2+1))<|some (.nx (K1.1++[X1.cP.gX],K1.2+1)) else ar (inR .i64 (K1.2+1))<|some (.nx (K1.1,K1.2+1)) else some (.br K1.1)
def eE (d0:bH):Option CD:=(av (qw n d0) n (([]:CD),(0:Int))).bind λG1=>some (G1)
theorem lD (d0:bH) (z:Zs):oK (bn.facts d0 z) [] 10 [bn.ag d0 z] (eE n d0) (λr y=>⟨(y 1).sl r.length,[rX 3 1 (y 1) r],[qX 1 (Dat.int .i64) (y 1) r]⟩):=
 fn 23 Tryz.func10 (lp [bx 10,K 10 15,nr 11 12 3 (tI .i64)] {is:=[12],js:=[11]} (λK1 z _=>{L:=[(2,(z 1).sl K1.1.length),(8,.int .i64 K1.2)],ks:=[6,7],E:=[(14,rX 3 1 (z 1) K1.1)],x:=[11],F:=[(13,qX 1 (Dat.int .i64) (z 1) K1.1)]}) (λG1 z _=>{e:=.exit 0,L:=[(2,(z 1).sl G1.length)],E:=[(22,rX 3 1 (z 1) G1)],x:=[11],F:=[(21,qX 1 (Dat.int .i64) (z 1) G1)]}) (λK1=>br [] (ob (λX1 X2=>br [I 9 15 cx X2,K 15 0,al 17,Sn 17,O 17] (nd (λO1=>nd (λO2=>rt [O 17,ao 18,lk 18 19 (tI .i64) [(X1.cP.gX,[])],ap (ys:=[X1.cP.gX]) 14 13 19 20 (tI .i64) O1,wr 21 O2] {is:=[20],js:=[14]}))) (nd (λO3=>rt [wr 21 O3] {is:=[13],js:=[14]})))) (rt [] {is:=[13],js:=[14]})) (kA λ_=>rt [] {is:=[21],js:=[22]}))
def kz (n:Nat) (d0:dq) (d1:Int) (d2:Int):Option Bool:=bif decide (d0.aX=d1) then some (decide (d0.aJ=d2)) else some (false)
theorem yP (d0:dq) (d1:Int) (d2:Int) (z:Zs):oK ([.kn (z 0).ad (cx.cells d0 (sh 1 z))]++cx.facts d0 (sh 1 z)++[.kn (z 2).ad ((tI .i64).cells d1 (sh 3 z))]++[.kn (z 3).ad ((tI .i8).cells d2 (sh 4 z))]) [] 133 [.pointer (some (z 0).ad),.pointer (some (z 2).ad),.pointer (some (z 3).ad)] (kz n d0 d1 d2) (λr y=>⟨.bool r,[],[]⟩):=
 fn 19 Tryz.func133 (bh (.reg 1) [] (λB1=>rt [ch [] [(11,⟨cB B1⟩)],K 0 0,K 2 0,K 0 1,K 3 0]) (λB1=>rt [ch [] [(11,⟨cB B1⟩)],K 0 0,K 2 0,cd true,cd true]))
def gL (d0:Cx) (jR:Int) (ip:Int) (K1:Int×dq):Option (Lp (Int×dq) (Sum dq dq)):=bif decide (K1.1<(d0.length:Int)) then(aq d0 K1.1).bind λX1=>(kz n X1 jR ip).bind λX3=>bif X3 then(aq d0 K1.1).bind λX5=>some (.br (.inl X5)) else ar (inR .i64 (K1.1+1))<|some (.nx (K1.1+1,K1.2)) else some (.br (.inr K1.2))
def lW (d0:Cx) (jR:Int) (ip:Int):Option (dq×Bool):=(av (gL n d0 jR ip) n ((0:Int),(⟨(0:Int),(0:Int),yJ,(0:Int),([]:Bs)⟩:dq))).bind λQ2=>(match Q2 with|.inl G1=>some (G1,(true))|.inr G2=>some (G2,(false)))
theorem Ai (d0:Cx) (jR:Int) (ip:Int) (z:Zs):oK ([sX 9 bF (z 0) d0,.kn (z 1).ad ((tI .i64).cells jR (sh 2 z)),.kn (z 2).ad ((tI .i8).cells ip (sh 3 z))]) [] 132 [wX (z 0) d0,.func (.func 133) #[] #[.pointer (some (z 1).ad),.pointer (some (z 2).ad)]] (lW n d0 jR ip) (λr y=>⟨.tuple #[cx.ag r.1 y,.bool r.2],[],cx.facts r.1 y⟩):=
 fn 23 Tryz.func132 (lp [al 3,nf 4 8 aj] {is:=[4]} (λK1 z _=>{L:=[(9,.int .i64 K1.1)],ks:=[0,1,4,8],o:=[(3,.cells (cx.cells K1.2 z).toArray 66 (0,0))],F:=nums 5 (cx.facts K1.2 z)}) (λx z b=>match x with|.inl G1=>{e:=.ret,L:=[(5,.bool true)],ks:=[4],o:=[(3,.cells (cx.cells G1 z).toArray 66 (0,0))],F:=nums 10 (cx.facts G1 z)}|.inr G2=>{e:=.exit 0,ks:=[4],o:=[(3,.cells (cx.cells G2 z).toArray 66 (0,0))],F:=nums 10 (cx.facts G2 z)}) (λK1=>br [] (ob (λX1 X2=>ob (λ_ X4=>br [I 0 6 cx X2,C (yP n X1 jR ip) X4 [6,7,1,2] [] 8] (ob (λ_ X6=>rt [I 0 8 cx X6,K 8 0,Sn 3] {is:=[9]})) (nd (λO1=>rt [wr 21 O1] {is:=[5]}))))) (rt [] {is:=[5]})) (kS (kA λ_=>rt [] {is:=[10],rk:=[3,0]}) (kA λ_=>rt [O 3,Sn 3] {is:=[10],rk:=[3,0]})))
def jg (d0:bH) (d1:Int) (d2:Int):Option (dq×Bool):=(lW n d0.an d1 d2).bind λX1=>some (X1.1,(X1.2))
theorem Bq (d0:bH) (d1:Int) (d2:Int) (z:Zs):oK (bn.facts d0 z) [] 72 [bn.ag d0 z,.int .i64 d1,.int .i8 d2] (jg n d0 d1 d2) (λr y=>⟨.tuple #[cx.ag r.1 y,.bool r.2],[],cx.facts r.1 y⟩):=
 fn 14 Tryz.func72 (ob (λ_ X2=>rt [bx 10,bx 11,bx 12,al 13,K 10 15,C (Ai n d0.an d1 d2) X2 [9,11,12] [] 14,Sn 13] {is:=[14],rk:=[13,0]}))
def gM (n:Nat) (d0:Int) (d1:Int) (d2:Int):Option Bool:=bif decide (d1≤d0) then some (decide (d0≤d2)) else some (false)
theorem lE (d0:Int) (d1:Int) (d2:Int) (z:Zs):oK ([]) [] 39 [.int .i64 d0,.int .i64 d1,.int .i64 d2] (gM n d0 d1 d2) (λr y=>⟨.bool r,[],[]⟩):=
 fn 15 Tryz.func39 (bs [] 10 (rt []) (rt []))
def eu (n:Nat) (d0:Int) (d1:Int) (d2:Int):Option Bool:=bif decide (d1≤d0) then some (decide (d0≤d2)) else some (false)
theorem jU (d0:Int) (d1:Int) (d2:Int) (z:Zs):oK ([]) [] 83 [.int .i8 d0,.int .i8 d1,.int .i8 d2] (eu n d0 d1 d2) (λr y=>⟨.bool r,[],[]⟩):=
 fn 15 Tryz.func83 (bs [] 10 (rt []) (rt []))
open Go.Ck
def jM (n:Nat) (K1: (List (Bs×Int))) (X1:Int×cV):Option (Lp (List (Bs×Int)) Empty):=some (.nx (jv K1 X1.2.ci X1.1))
def jN (n:Nat) (K2: (List (Bs×Int))) (K3:Int×List CD) (G1:List Bs) (K4:Int×List CD):Option (Lp (Int×List CD) (List CD)):=bif decide (K4.1<(G1.length:Int)) then(aq G1 K4.1).bind λX6=>bif(eS K2 X6).isSome then(aq K4.2 K3.1).bind λX8=>ar ((X8.length+1)*8≤140737488355328)<|ar (inR .i64 (K4.1+1))<|some (.nx (K4.1+1,K4.2.set K3.1.toNat (X8++[(eS K2 X6).getD (0:Int)]))) else ar (inR .i64 (K4.1+1))<|some (.nx (K4.1+1,K4.2)) else some (.br K4.2)
def dU (d0:bH) (d1:Bool) (K2: (List (Bs×Int))) (K3:Int×List CD):Option (Lp (Int×List CD) (List CD)):=bif decide (K3.1<(d0.am.length:Int)) then(aq d0.am K3.1).bind λX2=>(bif d1 then(kj n d0.bI X2.ci).bind λX4=>some (X4.1.bA) else some (X2.bA):Option (List Bs)).bind λG1=>(av (jN n K2 K3 G1) n ((0:Int),K3.2)).bind λG2=>(aq G2 K3.1).bind λX10=>(ta n X10).bind λX12=>(aq (G2.set K3.1.toNat X12) K3.1).bind λX14=>(oZ n X14).bind λX16=>ar (0≤(X16.length:Int)∧(X16.length:Int)≤(X16.length:Int))<|ar (inR .i64 (K3.1+1))<|some (.nx (K3.1+1,(G2.set K3.1.toNat X12).set K3.1.toNat (X16.take (X16.length:Int).toNat))) else some (.br K3.2)
def dc (d0:bH) (d1:Bool):Option (List CD):=ar (d0.am.length≤9223372036854775806)<|(iN (jM n) (backI d0.am) ([]:List (Bs×Int))).bind λj_1=>(match j_1 with|.nx K2=>ar (0≤(d0.am.length:Int)∧(d0.am.length:Int)*24≤140737488355328∧(d0.am.length:Int)≤140737488355328)<|(av (dU n d0 d1 K2) n ((0:Int),List.replicate (d0.am.length:Int).toNat ([]:CD))).bind λG3=>some (G3)|.br _=>none)
set_option maxRecDepth 20000 in
theorem oW (n:Nat) (d0:bH) (d1:Bool) (z:Zs):oK (bn.facts d0 z) [] 34 [bn.ag d0 z,.bool d1] (dc n d0 d1) (λr y=>⟨(y 0).sl r.length,[],[.sli 1 (eL 1 (Dat.int .i64)) (y 0).A (y 0).c r]⟩):=
 fnM 99 Tryz.func34 (nd (λO1=>rf [bx 10,mm 11 (Value.int .i64),al 12,S1 12,K 10 14,C (backC_C d0.am O1) rfl [8] [] 13] (iS dk) 14 15 {} (λK1 _ _=>{o:=[(11,kl S (Value.int .i64) K1)]}) (λb=>b.elim) [al 17,Sn 17] (λK1 X1=>rt [O 12,O 17,mi 11 (Value.int .i64) K1 X1.2.ci X1.1]) (kL (kA (λK2=>nd (λO2=>lp [K 10 14,mR 18 19 .i64 O2,K 10 14] {is:=[19]} (λK3 z _=>{L:=[(36,.int .i64 K3.1)],ks:=[1,2,5,8,34,35],o:=[(18,.cells (z 0).k.toArray 47 (0,0))],F:=[(20,.ln (z 0).k K3.2.length (d0.am.length:Int).toNat)],B:=some (rbag 3 .i64 K3.2 (z 0).k)}) (λG3 z _=>{e:=.exit 2,ks:=[8],o:=[(18,.cells (z 0).k.toArray 47 (0,0))],F:=[(53,.ln (z 0).k G3.length (d0.am.length:Int).toNat)],B:=some (rbag 3 .i64 G3 (z 0).k)}) (λK3=>br [] (ob (λX2 X3=>jn .no [I 8 21 dk X3,K 21 0,al 24,Sn 24,O 24] (λG1 z _=>{L:=[(11,(z 0).sl G1.length)],ks:=[1,2,5,8,9,34,35,36],F:=[(28,sX 1 Dat.str (z 0) G1)]}) (br [] (ob (λ_ X5=>rt [K 10 2,O 24,C (wk n d0.bI X2.ci) X5 [0,1,2,3,4] [] 25,al 27,Sn 27,O 27] {is:=[26]})) (rt [] {is:=[23]})) (kA λ_=>lp [] {is:=[20]} (λK4 z _=>{L:=[(56,.int .i64 K4.1)],ks:=[1,2,5,8,9,34,35,36,54,55],o:=[(18,.cells (z 0).k.toArray 47 (0,0))],F:=[(29,.ln (z 0).k K4.2.length (d0.am.length:Int).toNat)],B:=some (rbag 3 .i64 K4.2 (z 0).k)}) (λG2 z _=>{e:=.exit 4,ks:=[1,2,5,8,9,34,35,36],o:=[(18,.cells (z 0).k.toArray 47 (0,0))],F:=[(39,.ln (z 0).k G2.length (d0.am.length:Int).toNat)],B:=some (rbag 3 .i64 G2 (z 0).k)}) (λK4=>br [] (ob (λX6 X7=>br [I 28 30 tS X7,K 30 0,O 12,ml2 11 (Value.int .i64) K2 X6 (0:Int)] (ob (λX8 X9=>nd (λO3=>nd (λO4=>rt [pR 18 29 31 34 3 .i64 X9,X 31,lR 18 32,ao 35,lk 35 36 (tI .i64) [((eS K2 X6).getD (0:Int),[])],ap (ys:=[(eS K2 X6).getD (0:Int)]) 34 33 36 37 (tI .i64) O3,X 31,wR 18 29 31,pB 18 29 34 37 38 3 .i64 X9 (X8++[(eS K2 X6).getD (0:Int)]),wr 77 O4] {is:=[38]})))) (nd (λO5=>rt [wr 77 O5] {is:=[29]})))) (rt [] {is:=[29]})) (kA λ_=>ob (λX10 X11=>ob (λ_ X13=>ob (λX14 X15=>ob (λX16 X17=>nd (λO6=>nd (λO7=>rt [pR 18 39 40 43 3 .i64 X11,X 40,lR 18 41,C (h_SortI_C n X10) X13 [42] [43] 44,bR 18 39 43 41 44 45 3 .i64 X11 (h_SortI_len n _ _ X13),pR 18 45 46 49 3 .i64 X15,X 46,lR 18 47,C (h_CompactI_C n X14) X17 [48] [49] 50,T3 49 50 51 (tI .i64) O6,X 46,wR 18 45 46,pB 18 45 49 51 52 3 .i64 X15 (X16.take (X16.length:Int).toNat),wr 97 O7] {is:=[52]})))))))))) (rt [] {is:=[20]})) (kA λG3=>rt [wt 4,kR 18 53 54 3 .i64 G3 [4]] {is:=[54]})))) kE)))
open Go.Ck
def db (n:Nat) (d0:Cv) (z0:Bool):Option Cv:=bif z0 then some ([]:Cv) else ar ((([]:Cv).length+d0.length)*112≤140737488355328)<|some (([]:Cv)++d0)
theorem jd (M:Mem) (A0:Oa) (cap0:Nat) (d0:Cv) (h0:Sli M 8 bi A0 cap0 d0) (z0:Bool) (hz0:A0.isNone=z0) (r:Cv) (hF:db n d0 z0=some r):OkH Tryz.prog M [] 150 [sL A0 d0 cap0] (λM' E' v=>∃ (A0:Oa) (k0:Nat) (s0:Lv),v=sL A0 r k0∧E'=[.row 64 8 (sL A0 r k0) r.length s0]∧au M' (r.map bi) s0):=by
 unfold db at hF
 intro M1 hM0 w0 H w p0
 replace h0:=h0.mono hM0
 refine qR 8 Tryz.func150 rfl λa0 f0=>RR (Ye f0 1 λ_ f=>cq (RR (Y f 1 λ_ f=>Z (v:=bO A0.isNone) f (sR (A:=A0) (n:=d0.length) (c:=cap0) (e:=64) rfl kr kr kr _) λ_ f=>?_)))
 have f:=Frm.set f 4 (v:=bO A0.isNone) (v':=bO z0) kr (cB hz0)
 refine eT (RcF f hF (λB1 F1=>?_) λB1 F2=>?_)
 ·refine RR (Ye f 1 λ_ f=>wp_ret (T_r ?_))
  obtain⟨Z1,P1,H1,N1⟩:=p0.nilD 64 8 (cV)
  have f:=f.st 2 (H1)
  have D1:au M1 (([]:Cv).map bi) []:=rfl
  refine oR f rfl (Lk 2 (sL Z1 ([]:Cv) P1)) ?_
  cases sI F1
  exact⟨_,rfl,M1,_,(mR _),N1.kr,⟨Z1,P1,[],rfl,rfl,D1⟩⟩
 refine qS (RR (uX (k:=0) (c:=0) f p0 (.cells #[] 64 (0,0)) kr (λ_=>by kernel_rfl) λQ1 W1 N2 _ f=>Y f 1 λ_ f=>?_))
 have D2:au M1 (([]:Cv).map bi) []:=rfl
 have N3:=N2.objR 0 8
 obtain⟨O1,F3⟩:=nS F2
 refine sg (z:=.agg #[S [],iB 0,S [],qN,bO false,iL 0,bO false,qN]) (f:=bi) (xs:=([]:Cv)) (ys:=d0) (c:=cap0) f N3 D2 h0 kr kr rfl rfl rfl kr kr kr kr O1 (by omega) λZ2 P2 L1 W2 N4 D3 _ f=>Ye f 1 λ_ f=>wp_ret (oR f rfl (Lk 2 (sL Z2 (([]:Cv)++d0) P2)) ?_)
 cases sI F3
 exact⟨_,rfl,M1,_,(mR _),N4.kr,⟨Z2,P2,L1,rfl,rfl,D3⟩⟩
def ce (_:Nat) (d0:Cv):Option Cv:=ar (d0.length*112≤140737488355328) (some d0)
theorem jB (M:Mem) (A0:Oa) (cap0:Nat) (d0:Cv) (h0:Sli M 8 bi A0 cap0 d0) (r:Cv) (hF:ce n d0=some r):OkH Tryz.prog M [] 150 [sL A0 d0 cap0] (λM' E' v=>∃ (A0:Oa) (k0:Nat) (s0:Lv),v=sL A0 r k0∧E'=[.row 64 8 (sL A0 r k0) r.length s0]∧au M' (r.map bi) s0):=by
 unfold ce at hF
 obtain⟨g,hF⟩:=nS hF
 cases sI hF
 refine jd n M A0 cap0 d0 h0 A0.isNone rfl d0 ?_
 unfold db
 cases A0 with
 |none=>
  obtain⟨h1,h2,_⟩:=h0
  have h3:=h2 rfl
  obtain rfl:d0=[]:=List.eq_nil_of_length_eq_zero (by omega)
  rfl
 |some a=>simp[ar];omega
theorem jJ (d0:Cv) (z:Zs):oK ([sX 8 bi (z 0) d0]) [] 150 [wX (z 0) d0] (ce n d0) (λr y=>⟨(y 1).sl r.length,[rX 64 8 (y 1) r],[qX 8 bi (y 1) r]⟩):=λM hF r hr=>OkH.to (jB n M _ _ d0 (Fh.sli hF (by simp)) r hr) λM' E' v ⟨A0,c0,s0,hv,he,h0⟩=>⟨nthZ [{},{A:=A0,c:=c0,k:=s0}],hv,he,(.cons ⟨h0,dk.szd⟩ Fh.nil)⟩
def jh (n:Nat) (X1:Cv) (K1:Int×Cv):Option (Lp (Int×Cv) Cv):=bif decide (K1.1<(X1.length:Int)) then(aq K1.2 K1.1).bind λX3=>bif decide (X3.aA=4) then(aq K1.2 K1.1).bind λX5=>ar (inR .i64 (K1.1+1))<|some (.nx (K1.1+1,K1.2.set K1.1.toNat (⟨X5.ci,X5.aA,X5.bB,X5.bk,(X5.bV),X5.sq,(X5.bI),([]:List Bs)⟩:cV))) else ar (inR .i64 (K1.1+1))<|some (.nx (K1.1+1,K1.2)) else some (.br K1.2)
def lX (d0:bH):Option (List CD):=(ce n d0.am).bind λX1=>(av (jh n X1) n ((0:Int),X1)).bind λG1=>(dc n (⟨d0.aA,d0.co,d0.bI,d0.ig,d0.be,d0.bG,G1,d0.an,d0.aJ,d0.cm⟩:bH) (false)).bind λX7=>some (X7)
theorem Aj (d0:bH) (z:Zs):oK (bn.facts d0 z) [] 85 [bn.ag d0 z] (lX n d0) (λr y=>⟨(y 0).sl r.length,[],[.sli 1 (eL 1 (Dat.int .i64)) (y 0).A (y 0).c r]⟩):=
 fn 29 Tryz.func85 (ob (λ_ X2=>lp [al 10,O 10,C (jJ n d0.am) X2 [8] [] 11,S1 10,O 10] {is:=[11],js:=[11]} (λK1 z _=>{L:=[(11,.int .i64 K1.1)],ks:=[1,10],E:=[(13,rX 64 8 (z 1) K1.2)],x:=[11],m:=[(10,14,(z 1).sl K1.2.length)],F:=[(12,qX 8 bi (z 1) K1.2)]}) (λG1 z _=>{e:=.exit 0,ks:=[1],E:=[(25,rX 64 8 (z 1) G1)],x:=[11],m:=[(10,14,(z 1).sl G1.length)],F:=[(24,qX 8 bi (z 1) G1)]}) (λK1=>br [] (ob (λ_ X4=>br [O 10,Re 13 12 14 dk X4,X 15,Rd 13 14 1] (ob (λX5 X6=>nd (λO1=>rt [O 10,Re 13 12 18 dk X6,X 19,nf 22 1 Dat.str,Sf 13 12 18 23 7 dk X6 (⟨X5.ci,X5.aA,X5.bB,X5.bk,(X5.bV),X5.sq,(X5.bI),([]:List Bs)⟩:cV) [20,22] [] [(10,14)],wr 26 O1] {is:=[23],js:=[13]}))) (nd (λO2=>rt [wr 26 O2] {is:=[12],js:=[13]})))) (rt [] {is:=[12],js:=[13]})) (kA λG1=>ob (λ_ X8=>rt [O 10,ri 25 24 26,C (oW n (⟨d0.aA,d0.co,d0.bI,d0.ig,d0.be,d0.bG,G1,d0.an,d0.aJ,d0.cm⟩:bH) (false)) X8 [0,1,2,3,4,5,6,7,26,9] [] 27] {is:=[27]}))))
open Go.Ck
def mw (n:Nat) (G1:CB×Int) (K2:List Bs×Int):Option (Lp (List Bs×Int) (List Bs)):=bif decide (K2.2<(G1.1.length:Int)) then(aq G1.1 K2.2).bind λX1=>ar ((K2.1.length+1)*16≤140737488355328)<|ar (inR .i64 (K2.2+1))<|some (.nx (K2.1++[X1.bm],K2.2+1)) else some (.br K2.1)
def dr (d0:gH) (K1:List Bs×Int):Option (Lp (List Bs×Int) (List Bs)):=bif decide (K1.2<3) then(ar (0≤K1.2∧K1.2<3)<|bif decide (K1.2=0) then some (d0.aR,(0:Int)) else bif decide (K1.2=1) then some (d0.cJ,(1:Int)) else some (d0.cM,(2:Int)):Option (CB×Int)).bind λG1=>(av (mw n G1) n (K1.1,(0:Int))).bind λG2=>ar (inR .i64 (G1.2+1))<|some (.nx (G2,G1.2+1)) else some (.br K1.1)
def um (d0:gH):Option (List Bs):=(av (dr n d0) n (([]:List Bs),(0:Int))).bind λG3=>some (G3)
theorem state_Live_C (d0:gH) (z:Zs):oK (ez.facts d0 z) [] 145 [ez.ag d0 z] (um n d0) (λr y=>⟨(y 1).sl r.length,[rX 9 1 (y 1) r],[qX 1 Dat.str (y 1) r]⟩):=
 fn 31 Tryz.func145 (lp [bx 5,K 5 0,K 5 1,K 5 2,nr 6 7 9 tS] {is:=[7],js:=[6]} (λK1 z _=>{L:=[(2,(z 1).sl K1.1.length),(14,.int .i64 K1.2)],ks:=[13],E:=[(9,rX 9 1 (z 1) K1.1)],x:=[6],F:=[(8,qX 1 Dat.str (z 1) K1.1)]}) (λG3 z _=>{e:=.exit 0,L:=[(2,(z 1).sl G3.length)],E:=[(23,rX 9 1 (z 1) G3)],x:=[6],F:=[(22,qX 1 Dat.str (z 1) G3)]}) (λK1=>br [] (jn (.reg 3) [] (λG1 z _=>{L:=[(4,(z 0).sl G1.1.length),(14,.int .i64 G1.2)],ks:=[2,13],F:=[(10,sX 6 aK (z 0) G1.1)]}) (nd (λO1=>bh .now [] (λB2=>rt [rs 14 (congrArg (Value.int .i64) (of_decide_eq_true B2)),qq] {is:=[0]}) (λB2=>bh .now [] (λB3=>rt [rs 14 (congrArg (Value.int .i64) (of_decide_eq_true B3)),qq] {is:=[1]}) (λB3=>rt [rs 14 (congrArg (Value.int .i64) (show K1.2=2 by have:=of_decide_eq_false B2;have:=of_decide_eq_false B3;have:=O1;omega)),qq] {is:=[2]})))) (kA λ_=>lp [] {is:=[8],js:=[9]} (λK2 z _=>{L:=[(2,(z 1).sl K2.1.length),(19,.int .i64 K2.2)],ks:=[13,14,17,18],E:=[(12,rX 9 1 (z 1) K2.1)],x:=[9],F:=[(11,qX 1 Dat.str (z 1) K2.1)]}) (λG2 z _=>{e:=.exit 2,L:=[(2,(z 1).sl G2.length)],ks:=[13,14],E:=[(21,rX 9 1 (z 1) G2)],x:=[9],F:=[(20,qX 1 Dat.str (z 1) G2)]}) (λK2=>br [] (ob (λX1 X2=>nd (λO2=>nd (λO3=>rt [I 10 13 bN X2,K 13 0,al 16,Sn 16,O 16,ao 17,lk 17 18 tS [(X1.bm,[])],ap (ys:=[X1.bm]) 12 11 18 19 tS O2,wr 28 O3] {is:=[19],js:=[12]})))) (rt [] {is:=[11],js:=[12]})) (kA λ_=>nd (λO4=>rt [wr 29 O4] {is:=[20],js:=[21]})))) (rt [] {is:=[8],js:=[9]})) (kA λ_=>rt [] {is:=[22],js:=[23]}))
open Go.Ck
def ec (n:Nat) (d0:List Bs) (z0:Bool):Option (List Bs):=bif z0 then some ([]:List Bs) else ar ((([]:List Bs).length+d0.length)*16≤140737488355328)<|some (([]:List Bs)++d0)
theorem lQ (M:Mem) (A0:Oa) (cap0:Nat) (d0:List Bs) (h0:Sli M 1 Dat.str A0 cap0 d0) (z0:Bool) (hz0:A0.isNone=z0) (r:List Bs) (hF:ec n d0 z0=some r):OkH Tryz.prog M [] 149 [sL A0 d0 cap0] (λM' E' v=>∃ (A0:Oa) (k0:Nat) (s0:Lv),v=sL A0 r k0∧E'=[.row 9 1 (sL A0 r k0) r.length s0]∧au M' (r.map Dat.str) s0):=by
 unfold ec at hF
 intro M1 hM0 w0 H w p0
 replace h0:=h0.mono hM0
 refine qR 8 Tryz.func149 rfl λa0 f0=>RR (Ye f0 1 λ_ f=>cq (RR (Y f 1 λ_ f=>Z (v:=bO A0.isNone) f (sR (A:=A0) (n:=d0.length) (c:=cap0) (e:=9) rfl kr kr kr _) λ_ f=>?_)))
 have f:=Frm.set f 4 (v:=bO A0.isNone) (v':=bO z0) kr (cB hz0)
 refine eT (RcF f hF (λB1 F1=>?_) λB1 F2=>?_)
 ·refine RR (Ye f 1 λ_ f=>wp_ret (T_r ?_))
  obtain⟨Z1,P1,H1,N1⟩:=p0.nilD 9 1 Bs
  have f:=f.st 2 (H1)
  have D1:au M1 (([]:List Bs).map Dat.str) []:=rfl
  refine oR f rfl (Lk 2 (sL Z1 ([]:List Bs) P1)) ?_
  cases sI F1
  exact⟨_,rfl,M1,_,(mR _),N1.kr,⟨Z1,P1,[],rfl,rfl,D1⟩⟩
 refine qS (RR (uX (k:=0) (c:=0) f p0 (.cells #[] 9 (0,0)) kr (λ_=>by kernel_rfl) λQ1 W1 N2 _ f=>Y f 1 λ_ f=>?_))
 have D2:au M1 (([]:List Bs).map Dat.str) []:=rfl
 have N3:=N2.objR 0 1
 obtain⟨O1,F3⟩:=nS F2
 refine sg (z:=S []) (f:=Dat.str) (xs:=([]:List Bs)) (ys:=d0) (c:=cap0) f N3 D2 h0 kr kr rfl rfl rfl kr kr kr kr O1 (by omega) λZ2 P2 L1 W2 N4 D3 _ f=>Ye f 1 λ_ f=>wp_ret (oR f rfl (Lk 2 (sL Z2 (([]:List Bs)++d0) P2)) ?_)
 cases sI F3
 exact⟨_,rfl,M1,_,(mR _),N4.kr,⟨Z2,P2,L1,rfl,rfl,D3⟩⟩
def cS (_:Nat) (d0:List Bs):Option (List Bs):=ar (d0.length*16≤140737488355328) (some d0)
theorem nP (M:Mem) (A0:Oa) (cap0:Nat) (d0:List Bs) (h0:Sli M 1 Dat.str A0 cap0 d0) (r:List Bs) (hF:cS n d0=some r):OkH Tryz.prog M [] 149 [sL A0 d0 cap0] (λM' E' v=>∃ (A0:Oa) (k0:Nat) (s0:Lv),v=sL A0 r k0∧E'=[.row 9 1 (sL A0 r k0) r.length s0]∧au M' (r.map Dat.str) s0):=by
 unfold cS at hF
 obtain⟨g,hF⟩:=nS hF
 cases sI hF
 refine lQ n M A0 cap0 d0 h0 A0.isNone rfl d0 ?_
 unfold ec
 cases A0 with
 |none=>
  obtain⟨h1,h2,_⟩:=h0
  have h3:=h2 rfl
  obtain rfl:d0=[]:=List.eq_nil_of_length_eq_zero (by omega)
  rfl
 |some a=>simp[ar];omega
def sd (n:Nat) (d0:gK) (d1:gK):Option Int:=bif Op.bytesLess d0.ci d1.ci then some (-1:Int) else some (1:Int)
theorem AD (d0:gK) (d1:gK) (z:Zs):oK (bN.facts d0 z++bN.facts d1 (sh 2 z)) [] 147 [bN.ag d0 z,bN.ag d1 (sh 2 z)] (sd n d0 d1) (λr y=>⟨.int .i64 r,[],[]⟩):=
 fn 10 Tryz.func147 (br [bx 4,bx 5,K 4 0,K 5 0] (rt []) (rt []))
theorem oN (d0:List Bs) (z:Zs):oK ([sX 1 Dat.str (z 0) d0]) [] 149 [wX (z 0) d0] (cS n d0) (λr y=>⟨(y 1).sl r.length,[rX 9 1 (y 1) r],[qX 1 Dat.str (y 1) r]⟩):=λM hF r hr=>OkH.to (nP n M _ _ d0 (Fh.sli hF (by simp)) r hr) λM' E' v ⟨A0,c0,s0,hv,he,h0⟩=>⟨nthZ [{},{A:=A0,c:=c0,k:=s0}],hv,he,(.cons ⟨h0,tS.szd⟩ Fh.nil)⟩
def lb (d0:gH) (K1:Int):Option (Lp Int (Sum Unit Unit)):=bif decide (K1<(d0.aR.length:Int)) then ar (inR .i64 (K1-1))<|(aq d0.aR (K1-1)).bind λX9=>(aq d0.aR K1).bind λX11=>(sd n X9 X11).bind λX13=>bif decide ((0:Int)<X13) then some (.br (.inl ())) else ar (inR .i64 (K1+1))<|some (.nx (K1+1)) else some (.br (.inr ()))
def rh (d0:gH):Option Int:=(um n d0).bind λX1=>(tb n X1).bind λX3=>(cS n X3).bind λX5=>(pc n X5).bind λX7=>(bif !(decide ((X7.length:Int)=(X3.length:Int))) then some (true) else bif decide (d0.oY<0) then some (true) else bif decide ((1099511627776:Int)<d0.oY) then some (true) else bif decide (d0.cm<0) then some (true) else some (decide ((6:Int)<d0.cm)):Option Bool).bind λG1=>bif G1 then some (2:Int) else(av (lb n d0) n (1:Int)).bind λQ2=>(match Q2 with|.inl G2=>some (2:Int)|.inr G3=>some (0:Int))
theorem state_Check_C (d0:gH) (z:Zs):oK (ez.facts d0 z) [] 84 [ez.ag d0 z] (rh n d0) (λr y=>⟨.int .i64 r,[],[]⟩):=
 fn 60 Tryz.func84 (ob (λX1 X2=>ob (λX3 X4=>ob (λX5 X6=>ob (λ_ X8=>jn (.reg 5) [bx 5,K 5 0,C (state_Live_C n d0) X2 [0,1,2,3,4] [] 6,C (h_SortS_C n X1) X4 [6] [6] 7,hl 6 (h_SortS_len n _ _ X4) [3,9],ri 6 7 8,C (oN n X3) X6 [8] [] 9,C (h_CompactS_C n X5) X8 [9] [9] 10] (λG1 _ _=>{L:=[(38,.bool G1)],ks:=[1,4]}) (bs [] 19 (rt []) (bs [K 5 6] 24 (rt []) (bs [K 5 6] 29 (rt []) (bs [K 5 7] 34 (rt []) (rt [K 5 7]))))) (kA λ_=>br [] (rt []) (lp [] {} (λK1 _ _=>{L:=[(6,.int .i64 K1)],ks:=[1,4]}) (λx z b=>match x with|.inl G2=>{e:=.ret,L:=[(2,.int .i64 2)]}|.inr G3=>{e:=.exit 0}) (λK1=>br [K 5 0] (nd (λO1=>ob (λX9 X10=>ob (λX11 X12=>ob (λ_ X14=>br [Ie 0 11 bN X10,Ie 0 15 bN X12,ch [] [(50,⟨congrArg (Value.int .i64) (cD O1)⟩)],K 5 0,X 12,K 11 0,K 5 0,X 16,K 15 0,C (AD n X9 X11) X14 [13,14,17,18] [] 19] (rt []) (nd (λO2=>rt [wr 45 O2]))))))) (rt [])) (kS (kA λ_=>rt []) (kA λ_=>rt [])))))))))
end Go.Proofs.YtkmbfmdhoeibhaaGreat
end
