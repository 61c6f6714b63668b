/-
  Texts of this claim, packed (what nothing names is left out): VkA, Vo, VkB, VkC, VkD, VkE, VkF, VkJ, VkG, VkH, VkI, VkK, VkP. Own work, partly printed by own programs. No condition.
-/
import Derived.WalkKit
import Derived.Deep.Quiet
import Derived.Below
import Derived.Deep.Draws
import Derived.Laws.OwnMore
import Derived.Laws.Rows
import Derived.Laws.IdiomStrings
import Derived.Laws.BytesString
import Derived.Laws.BytesArg
import Derived.Lib.Strings
import Derived.Deep.LoopGhost
import Derived.Maps.AppendAt
import Derived.OwnWalk
import Derived.IntWalk
import Derived.ArgAppend
import Derived.Sort.Grow
import Derived.Deep.OwnRows
import Derived.StillTail
import Derived.Deep.AppendSrc
import Derived.Deep.Upon
import Derived.ChangeArms
import Derived.Carry
import Derived.Lib.Builder
import Derived.Lib.UnsafeStr
import Derived.Shelf.Unicode.DecodeSlow
import Derived.Lib.TrimUEq
import Derived.OrdersIn
import Derived.TacticsIn
import Derived.RangeFuncIn
import Derived.RangeFuncRecord
import Derived.RangeFuncLeaves
import Derived.Laws.StructEq
import Derived.Lib.SlicesCompact
set_option linter.unusedVariables false
set_option linter.unusedSimpArgs false
set_option maxHeartbeats 2000000
section
namespace Go.Vc
open Go
section
variable {α : Type}
abbrev _root_.iL (x : Int) : Value := .int .i64 x
abbrev _root_.iB (x : Int) : Value := .int .i8 x
abbrev _root_.bO (x : Bool) : Value := .bool x
abbrev _root_.sL (A : Option Addr) (x : List α) (c : Nat) : Value := .slice A x.length c
abbrev _root_.pP (b : Nat) : Value := .pointer (some ⟨b, 0, none⟩)
end
abbrev _root_.Prod.t3 {a0 a1 a2 a3 : Type} (p : a0 × a1 × a2 × a3) := p.2.2.2
abbrev _root_.Prod.t4 {a0 a1 a2 a3 a4 : Type} (p : a0 × a1 × a2 × a3 × a4) := p.2.2.2.2
abbrev _root_.Prod.t5 {a0 a1 a2 a3 a4 a5 : Type} (p : a0 × a1 × a2 × a3 × a4 × a5) := p.2.2.2.2.2
abbrev _root_.Prod.t6 {a0 a1 a2 a3 a4 a5 a6 : Type} (p : a0 × a1 × a2 × a3 × a4 × a5 × a6) := p.2.2.2.2.2.2
abbrev _root_.Prod.t7 {a0 a1 a2 a3 a4 a5 a6 a7 : Type} (p : a0 × a1 × a2 × a3 × a4 × a5 × a6 × a7) := p.2.2.2.2.2.2.2
abbrev _root_.Prod.t8 {a0 a1 a2 a3 a4 a5 a6 a7 a8 : Type} (p : a0 × a1 × a2 × a3 × a4 × a5 × a6 × a7 × a8) := p.2.2.2.2.2.2.2.2
abbrev _root_.Prod.t9 {a0 a1 a2 a3 a4 a5 a6 a7 a8 a9 : Type} (p : a0 × a1 × a2 × a3 × a4 × a5 × a6 × a7 × a8 × a9) := p.2.2.2.2.2.2.2.2.2
abbrev _root_.Prod.t10 {a0 a1 a2 a3 a4 a5 a6 a7 a8 a9 a10 : Type} (p : a0 × a1 × a2 × a3 × a4 × a5 × a6 × a7 × a8 × a9 × a10) := p.2.2.2.2.2.2.2.2.2.2
abbrev _root_.Prod.t11 {a0 a1 a2 a3 a4 a5 a6 a7 a8 a9 a10 a11 : Type} (p : a0 × a1 × a2 × a3 × a4 × a5 × a6 × a7 × a8 × a9 × a10 × a11) := p.2.2.2.2.2.2.2.2.2.2.2
abbrev _root_.Prod.t12 {a0 a1 a2 a3 a4 a5 a6 a7 a8 a9 a10 a11 a12 : Type} (p : a0 × a1 × a2 × a3 × a4 × a5 × a6 × a7 × a8 × a9 × a10 × a11 × a12) := p.2.2.2.2.2.2.2.2.2.2.2.2
abbrev _root_.Prod.t13 {a0 a1 a2 a3 a4 a5 a6 a7 a8 a9 a10 a11 a12 a13 : Type} (p : a0 × a1 × a2 × a3 × a4 × a5 × a6 × a7 × a8 × a9 × a10 × a11 × a12 × a13) := p.2.2.2.2.2.2.2.2.2.2.2.2.2
abbrev _root_.Prod.t14 {a0 a1 a2 a3 a4 a5 a6 a7 a8 a9 a10 a11 a12 a13 a14 : Type} (p : a0 × a1 × a2 × a3 × a4 × a5 × a6 × a7 × a8 × a9 × a10 × a11 × a12 × a13 × a14) := p.2.2.2.2.2.2.2.2.2.2.2.2.2.2
abbrev _root_.Prod.t15 {a0 a1 a2 a3 a4 a5 a6 a7 a8 a9 a10 a11 a12 a13 a14 a15 : Type} (p : a0 × a1 × a2 × a3 × a4 × a5 × a6 × a7 × a8 × a9 × a10 × a11 × a12 × a13 × a14 × a15) := p.2.2.2.2.2.2.2.2.2.2.2.2.2.2.2
abbrev _root_.Prod.t16 {a0 a1 a2 a3 a4 a5 a6 a7 a8 a9 a10 a11 a12 a13 a14 a15 a16 : Type} (p : a0 × a1 × a2 × a3 × a4 × a5 × a6 × a7 × a8 × a9 × a10 × a11 × a12 × a13 × a14 × a15 × a16) := p.2.2.2.2.2.2.2.2.2.2.2.2.2.2.2.2
abbrev _root_.Prod.t17 {a0 a1 a2 a3 a4 a5 a6 a7 a8 a9 a10 a11 a12 a13 a14 a15 a16 a17 : Type} (p : a0 × a1 × a2 × a3 × a4 × a5 × a6 × a7 × a8 × a9 × a10 × a11 × a12 × a13 × a14 × a15 × a16 × a17) := p.2.2.2.2.2.2.2.2.2.2.2.2.2.2.2.2.2
abbrev _root_.Prod.t18 {a0 a1 a2 a3 a4 a5 a6 a7 a8 a9 a10 a11 a12 a13 a14 a15 a16 a17 a18 : Type} (p : a0 × a1 × a2 × a3 × a4 × a5 × a6 × a7 × a8 × a9 × a10 × a11 × a12 × a13 × a14 × a15 × a16 × a17 × a18) := p.2.2.2.2.2.2.2.2.2.2.2.2.2.2.2.2.2.2
abbrev _root_.Prod.t19 {a0 a1 a2 a3 a4 a5 a6 a7 a8 a9 a10 a11 a12 a13 a14 a15 a16 a17 a18 a19 : Type} (p : a0 × a1 × a2 × a3 × a4 × a5 × a6 × a7 × a8 × a9 × a10 × a11 × a12 × a13 × a14 × a15 × a16 × a17 × a18 × a19) := p.2.2.2.2.2.2.2.2.2.2.2.2.2.2.2.2.2.2.2
abbrev _root_.Prod.t20 {a0 a1 a2 a3 a4 a5 a6 a7 a8 a9 a10 a11 a12 a13 a14 a15 a16 a17 a18 a19 a20 : Type} (p : a0 × a1 × a2 × a3 × a4 × a5 × a6 × a7 × a8 × a9 × a10 × a11 × a12 × a13 × a14 × a15 × a16 × a17 × a18 × a19 × a20) := p.2.2.2.2.2.2.2.2.2.2.2.2.2.2.2.2.2.2.2.2
theorem _root_.kr {p : Prop} (h : p := by kernel_rfl) : p := h
theorem _root_.dT {p : Prop} [h' : Decidable p] (h : p) : decide p = true := decide_eq_true h
theorem _root_.dF {p : Prop} [h' : Decidable p] (h : ¬ p) : decide p = false := decide_eq_false h
theorem _root_.nT : (!true) = false := rfl
theorem _root_.nF : (!false) = true := rfl
abbrev _root_.Sn : Value := .slice none 0 0
abbrev _root_.Pa (a : Addr) : Value := .pointer (some a)
abbrev _root_.Bs := List UInt8
abbrev _root_.Lv := List Value
abbrev _root_.Oa := Option Addr
theorem _root_.Bz : (∀ b, (b && true) = b) ∧ (∀ b, (true && b) = b) ∧ (∀ b, (false && b) = false) ∧ (∀ b, (b && false) = false) ∧ (∀ b, (b || true) = true) ∧ (∀ b, (true || b) = true) ∧ (∀ b, (b || false) = b) ∧ (∀ b, (false || b) = b) ∧ (!true) = false ∧ (!false) = true ∧ (∀ {α : Type} (x y : α), cond true x y = x) ∧ (∀ {α : Type} (x y : α), cond false x y = y) := by simp
variable {dd:List Deferred}
abbrev Fr:=List (Nat×Value)
def look:Fr→Nat→Option Value
 |[],_=>none
 |(s,v)::r,t=>bif Nat.beq s t then some v else look r t
theorem Lk {L : Fr} (k : Nat) (v : Value) (h : Go.Vc.look L k = some v := by kernel_rfl) : Go.Vc.look L k = some v := h
def ev (L:Fr):Operand→Value
 |.tmp t=>(look L t).getD undef
 |.const v=>v
 |.global g=>.pointer (some ⟨g,0,none⟩)
 |.func f=>.func (.func f) #[] #[]
def has (L:Fr):Operand→Bool
 |.tmp t=>(look L t).isSome
 |_=>true
def bi (ops:Array Oper) (L:Fr) (o:Oper):Option Bool:=
 match o.guard with
 |none=>some true
 |some (j,want)=>match ((ops[j]?).bind (·.dst)).bind (look L) with
  |some (.bool b)=>some (b==want)
  |some _=>some false
  |none=>none
def putL (n:Nat) (L:Fr) (d:Option Nat) (v:Value):Option Fr:=
 match d with
 |none=>some L
 |some d=>bif Nat.blt d n then some ((d,v)::L) else none
def noSelect (o:Oper):Bool:=match o.op with|.select .. =>false|_=>true
def bW (L:Fr) (o:Oper):Bool:=o.op.operands.toList.all (has L)&&noSelect o
def runL (P:Program) (ops:Array Oper) (n:Nat):List Oper→Fr→World→Option (Fr×World)
 |[],L,w=>some (L,w)
 |o::os,L,w=>match bi ops L o with
  |none=>none
  |some false=>(putL n L o.dst undef).bind λL'=>runL P ops n os L' w
  |some true=>bif bW L o then
   match (execOp (ev L) o).run P w with
   |.ok (.value v) w'=>(putL n L o.dst v).bind λL'=>runL P ops n os L' w'
   |.ok .skip w'=>(putL n L o.dst undef).bind λL'=>runL P ops n os L' w'
   |_=>none
   else none
def keep:List Nat→Fr→Option Fr
 |[],_=>some []
 |k::ks,L=>match look L k,keep ks L with
  |some v,some r=>some ((k,v)::r)
  |_,_=>none
def runK (P:Program) (ops:Array Oper) (n:Nat) (l:List Oper) (ks:List Nat) (L:Fr) (w:World):Option (Fr×World):=
 (runL P ops n l L w).bind λr=>(keep ks r.1).map λK=>(K,r.2)
structure Frm (n:Nat) (L:Fr) (a:Act) (dd:List Deferred:=[]):Prop where
 size:a.tmps.size=n
 defers:a.defers=dd
 at_: ∀t v,look L t=some v→a.tmps[t]? =some v
section
variable {n:Nat} {L L':Fr} {a:Act}
theorem beq_ne {a b:Nat} (h: ¬a=b):Nat.beq a b=false:=by
 cases h':Nat.beq a b with
 |false=>rfl
 |true=>exact absurd (Nat.eq_of_beq_eq_true h') h
theorem Frm.ev (h:Frm n L a dd) {x:Operand} (hx:has L x=true):a.eval x=ev L x:=by
 cases x with
 |tmp t=>
  simp only[has] at hx
  obtain⟨v,hv⟩:=Option.isSome_iff_exists.1 hx
  have:=h.at_ t v hv
  simp[Act.eval,Vc.ev,hv,this]
 |const v=>rfl
 |global g=>rfl
 |func f=>rfl
theorem Frm.exec (h:Frm n L a dd) {o:Oper} (hr:bW L o=true):execOp a.eval o=execOp (Vc.ev L) o:=by
 simp only[bW,Bool.and_eq_true,List.all_eq_true] at hr
 refine execOp_congr o (λcs b e=>?_) (λx hx=>h.ev (hr.1 x (by simpa using hx)))
 have:=hr.2
 simp[noSelect,e] at this
theorem Frm.wanted (h:Frm n L a dd) {ops:Array Oper} {o:Oper} {b:Bool} (hw:bi ops L o=some b):Region.wanted o (yielded ops a.tmps)=b:=by
 unfold bi at hw
 unfold Region.wanted
 cases hg:o.guard with
 |none=>simp only[hg] at hw ⊢;exact(Option.some.inj hw)
 |some jw=>
  obtain⟨j,want⟩:=jw
  simp only[hg] at hw ⊢
  unfold yielded
  cases ht: (ops[j]?).bind (·.dst) with
  |none=>simp[ht] at hw
  |some t=>
   simp only[ht,Option.bind_some] at hw ⊢
   cases hv:look L t with
   |none=>simp[hv] at hw
   |some v=>
    rw[h.at_ t v hv]
    simp only[hv] at hw
    cases v<;>simp_all
theorem Frm.put (h:Frm n L a dd) {d:Nat} (hd:d<n) (v:Value):Frm n ((d,v)::L) (a.put (some d) v) dd:=by
 refine⟨by simp[Act.put,h.size],by simp[Act.put,h.defers],λt u hu=>?_⟩
 simp only[look] at hu
 by_cases e:d=t
 ·subst e
  simp only[Nat.beq_refl,cond_true,Option.some.injEq] at hu
  subst hu
  simp[Act.put,h.size,hd]
 have:Nat.beq d t=false:=beq_ne e
 simp only[this,cond_false] at hu
 simp[Act.put,e,h.at_ t u hu]
theorem Frm.putL (h:Frm n L a dd) {d:Option Nat} {v:Value} (hp:putL n L d v=some L'):Frm n L' (a.put d v) dd:=by
 cases d with
 |none=>simp only[Vc.putL,Option.some.injEq] at hp;subst hp;exact h
 |some d=>
  simp only[Vc.putL] at hp
  cases hb:Nat.blt d n with
  |false=>simp[hb] at hp
  |true=>
   simp only[hb,cond_true,Option.some.injEq] at hp
   subst hp
   exact h.put (by simpa [Nat.blt_eq] using hb) v
theorem tA: ∀ {ks:List Nat} {K:Fr},keep ks L=some K→∀t v,look K t=some v→look L t=some v
 |[],K,h,t,v,hv=>by simp only[keep,Option.some.injEq] at h;subst h;simp[look] at hv
 |k::ks,K,h,t,v,hv=>by
  simp only[keep] at h
  split at h
  ·rename_i u r hu hr
   simp only[Option.some.injEq] at h
   subst h
   simp only[look] at hv
   by_cases e:k=t
   ·subst e
    simp only[Nat.beq_refl,cond_true,Option.some.injEq] at hv
    subst hv
    exact hu
   have:Nat.beq k t=false:=beq_ne e
   simp only[this,cond_false] at hv
   exact tA hr t v hv
  cases h
theorem Frm.keep (h:Frm n L a dd) {ks:List Nat} {K:Fr} (hk:keep ks L=some K):Frm n K a dd:=
 ⟨h.size,h.defers,λt v hv=>h.at_ t v (tA hk t v hv)⟩
theorem Frm.set (h:Frm n L a dd) (k:Nat) {v v':Value} (hl:look L k=some v) (e:v=v'):Frm n ((k,v')::L) a dd:=by
 subst e
 refine⟨h.size,h.defers,λt u hu=>?_⟩
 simp only[look] at hu
 by_cases e:k=t
 ·subst e
  simp only[Nat.beq_refl,cond_true,Option.some.injEq] at hu
  subst hu
  exact h.at_ _ _ hl
 have:Nat.beq k t=false:=beq_ne e
 simp only[this,cond_false] at hu
 exact h.at_ t u hu
end
section
variable {P:Program} {ops:Array Oper} {n:Nat} {Q:Exit→Act→World→Prop}
theorem wp_value {o:Oper} {a:Act} {w w':World} {K:Act→World→Prop} {v:Value} (h: (execOp a.eval o).run P w=.ok (.value v) w') (hk:K (a.put o.dst v) w'):o.wp P a w K Q:=by
 unfold Oper.wp;rw[h];exact hk
theorem wp_skip' {o:Oper} {a:Act} {w w':World} {K:Act→World→Prop} (h: (execOp a.eval o).run P w=.ok .skip w') (hk:K (a.put o.dst undef) w'):o.wp P a w K Q:=by
 unfold Oper.wp;rw[h];exact hk
theorem mC (rest:List Oper): ∀ (pre:List Oper) (L:Fr) (w:World) (a:Act),Frm n L a dd→∀L' w',runL P ops n pre L w=some (L',w')→
 (∀a',Frm n L' a' dd→wpList P ops Q rest a' w')→wpList P ops Q (pre++rest) a w
 |[],L,w,a,hf,L',w',hr,hk=>by
  simp only[runL,Option.some.injEq,Prod.mk.injEq] at hr
  obtain⟨rfl,rfl⟩:=hr
  exact hk a hf
 |o::os,L,w,a,hf,L',w',hr,hk=>by
  simp only[runL] at hr
  simp only[List.cons_append,wpList]
  cases hw:bi ops L o with
  |none=>simp[hw] at hr
  |some b=>
   rw[hf.wanted hw]
   cases b with
   |false=>
    simp only[hw] at hr
    obtain⟨L1,h1,h2⟩:=Option.bind_eq_some_iff.1 hr
    exact mC rest os L1 w _ (hf.putL h1) L' w' h2 hk
   |true=>
    simp only[hw] at hr
    cases hrd:bW L o with
    |false=>simp[hrd] at hr
    |true=>
     simp only[hrd,cond_true] at hr
     have he:=hf.exec hrd
     cases hx: (execOp (ev L) o).run P w with
     |halt x w1=>simp[hx] at hr
     |ok nx w1=>
      cases nx with
      |value v=>
       simp only[hx] at hr
       obtain⟨L1,h1,h2⟩:=Option.bind_eq_some_iff.1 hr
       exact .inl (wp_value (he▸hx) (mC rest os L1 w1 _ (hf.putL h1) L' w' h2 hk))
      |skip=>
       simp only[hx] at hr
       obtain⟨L1,h1,h2⟩:=Option.bind_eq_some_iff.1 hr
       exact .inl (wp_skip' (he▸hx) (mC rest os L1 w1 _ (hf.putL h1) L' w' h2 hk))
      |_=>simp[hx] at hr
theorem iU {L:Fr} {a:Act} {w:World} {l:List Oper} {L':Fr} {w':World} (hf:Frm n L a dd) (m:Nat) (ks:List Nat)
 (h:runK P ops n (l.take m) ks L w=some (L',w')) (hk: ∀a',Frm n L' a' dd→wpList P ops Q (l.drop m) a' w'):wpList P ops Q l a w:=by
 obtain⟨r,h1,h2⟩:=Option.bind_eq_some_iff.1 h
 obtain⟨K,h3,h4⟩:=Option.map_eq_some_iff.1 h2
 simp only[Prod.mk.injEq] at h4
 obtain⟨rfl,rfl⟩:=h4
 have:=mC (Q:=Q) (l.drop m) (l.take m) L w a hf r.1 r.2 (by rw[h1]) (λa' ha'=>hk a' (ha'.keep h3))
 rwa [List.take_append_drop] at this
theorem oz {L:Fr} {a:Act} {w w':World} {o:Oper} {rest:List Oper} {v:Value} {d:Nat} (hf:Frm n L a dd) (hw:bi ops L o=some true) (hr:bW L o=true)
 (hd:o.dst=some d) (hdn:Nat.blt d n=true) (hx: (execOp (ev L) o).run P w=.ok (.value v) w') (hk: ∀a',Frm n ((d,v)::L) a' dd→wpList P ops Q rest a' w'):wpList P ops Q (o::rest) a w:=by
 simp only[wpList]
 rw[hf.wanted hw]
 refine .inl (wp_value ((hf.exec hr)▸hx) (hk _ ?_))
 rw[hd]
 exact hf.put (by simpa [Nat.blt_eq] using hdn) v
theorem W_skip {L:Fr} {a:Act} {w w':World} {o:Oper} {rest:List Oper} (hf:Frm n L a dd) (hw:bi ops L o=some true) (hr:bW L o=true)
 (hd:o.dst=none) (hx: (execOp (ev L) o).run P w=.ok .skip w') (hk: ∀a',Frm n L a' dd→wpList P ops Q rest a' w'):wpList P ops Q (o::rest) a w:=by
 simp only[wpList]
 rw[hf.wanted hw]
 refine .inl (wp_skip' ((hf.exec hr)▸hx) (hk _ ?_))
 rw[hd]
 exact hf
theorem W_call {L:Fr} {a:Act} {w:World} {o:Oper} {rest:List Oper} {d:Nat} {f:FuncId} {args:Array Value} {R:Value→World→Prop} (hf:Frm n L a dd) (hw:bi ops L o=some true) (hr:bW L o=true)
 (hd:o.dst=some d) (hdn:Nat.blt d n=true) (hx: (execOp (ev L) o).run P w=.ok (.enter f args) w) (hc:Calls P f args w λe w'=>∃v,e=.returned v∧R v w')
 (hk: ∀v w',R v w'→∀a',Frm n ((d,v)::L) a' dd→wpList P ops Q rest a' w'):wpList P ops Q (o::rest) a w:=by
 simp only[wpList]
 rw[hf.wanted hw]
 refine .inl ?_
 unfold Oper.wp
 rw[hf.exec hr,hx]
 refine hc.mono λe w' he=>?_
 obtain⟨v,rfl,hR⟩:=he
 refine hk v w' hR _ ?_
 rw[hd]
 exact hf.put (by simpa [Nat.blt_eq] using hdn) v
theorem ag {a:Act} {w:World} {l:List Oper} (hl:l=[]) (h:Q .normal a w):wpList P ops Q l a w:=by subst hl;exact h
theorem ay {id:Nat} {a:Act} {w:World} (h:wpList P ops Q ops.toList a w): (Code.region id ops false).wp P Q a w:=wp_region_list h
theorem ah {x y:Code} {a:Act} {w:World} (h:x.wp P (Exit.then (y.wp P Q) Q) a w): (Code.seq x y).wp P Q a w:=wp_seq h
theorem RR {id:Nat} {y:Code} {a:Act} {w:World} (h:wpList P ops (Exit.then (y.wp P Q) Q) ops.toList a w): (Code.seq (.region id ops false) y).wp P Q a w:=ah (ay h)
theorem R_cond {L:Fr} {a:Act} {w:World} {c:Operand} {x y:Code} {b:Bool} (hf:Frm n L a dd) (hc:ev L c=.bool b) (hh:has L c=true)
 (ht:b=true→x.wp P Q a w) (hF:b=false→y.wp P Q a w): (Code.cond c x y).wp P Q a w:=
 wp_cond_split ((hf.ev hh).trans hc) ht hF
theorem Y3 {L:Fr} {a:Act} {w:World} {c:Operand} {x y:Code} {b:Bool} (hf:Frm n L a dd) (ht:b=true→x.wp P Q a w) (hF:b=false→y.wp P Q a w) (hc:ev L c=bO b:=by kernel_rfl) (hh:has L c=true:=by kernel_rfl): (Code.cond c x y).wp P Q a w:=R_cond hf hc hh ht hF
theorem RcF {L:Fr} {a:Act} {w:World} {c:Operand} {x y:Code} {b:Bool} {α:Type} {u v r:α} (hf:Frm n L a dd) (hX: (bif b then u else v)=r) (ht:b=true→u=r→x.wp P Q a w) (hF:b=false→v=r→y.wp P Q a w) (hc:ev L c=bO b:=by kernel_rfl) (hh:has L c=true:=by kernel_rfl): (Code.cond c x y).wp P Q a w:=
 R_cond hf hc hh (λh=>ht h (by rw[h] at hX;exact hX)) (λh=>hF h (by rw[h] at hX;exact hX))
theorem iT {L:Fr} {a:Act} {w:World} {c:Operand} {x y:Code} (hf:Frm n L a dd) (hc:ev L c=.bool true) (hh:has L c=true)
 (ht:x.wp P Q a w): (Code.cond c x y).wp P Q a w:=wp_cond ((hf.ev hh).trans hc) ht
theorem jE {L:Fr} {a:Act} {w:World} {c:Operand} {x y:Code} (hf:Frm n L a dd) (hc:ev L c=.bool false) (hh:has L c=true)
 (ht:y.wp P Q a w): (Code.cond c x y).wp P Q a w:=wp_cond ((hf.ev hh).trans hc) ht
theorem az {K:Act→World→Prop} {a:Act} {w:World} (h:K a w):Exit.then K Q .normal a w:=h
theorem eT {K:Act→World→Prop} {a:Act} {w:World} {l:List Oper} (h:K a w) (hl:l=[]:=by rfl):wpList P ops (Exit.then K Q) l a w:=ag hl (az h)
theorem Er {a : Act} {w : World} {l : List Oper} {Q' : Exit → Act → World → Prop} (h : Q' .ret a w) (hl : l = [] := by rfl) : wpList P ops (Exit.then (Code.ret.wp P Q') Q) l a w := eT (wp_ret h) hl
theorem St {K : Act → World → Prop} {a : Act} {w : World} (h : K a w) : Code.skip.wp P (Exit.then K Q) a w := wp_skip (az h)
theorem dJ {K:Act→World→Prop} {a:Act} {w:World} {i:Nat} (h:Q (.exit i) a w):Exit.then K Q (.exit i) a w:=h
theorem bl {K:Act→World→Prop} {a:Act} {w:World} (h:Q .ret a w):Exit.then K Q .ret a w:=h
theorem ec {i:Nat} {a:Act} {w:World} (h:Q .normal a w):Exit.inBlock i Q .normal a w:=h
theorem eu {i:Nat} {a:Act} {w:World} (h:Q .ret a w):Exit.inBlock i Q .ret a w:=h
theorem jV {i:Nat} {a:Act} {w:World} (h:Q .normal a w):Exit.inBlock i Q (.exit i) a w:=by
 show(if i=i then Q .normal a w else Q (.exit i) a w)
 rw[if_pos rfl];exact h
end
def frame0 (args:Lv) (i:Nat):Fr:=match args with
 |[]=>[]
 |v::r=>(i,v)::frame0 r (i+1)
theorem kO: ∀ (args:Lv) (i t:Nat) (v:Value),look (frame0 args i) t=some v→i≤t∧args[t-i]? =some v
 |[],i,t,v,h=>by simp[frame0,look] at h
 |u::r,i,t,v,h=>by
  simp only[frame0,look] at h
  by_cases e:i=t
  ·subst e
   simp only[Nat.beq_refl,cond_true,Option.some.injEq] at h
   subst h
   simp
  have:Nat.beq i t=false:=beq_ne e
  simp only[this,cond_false] at h
  obtain⟨h1,h2⟩:=kO r (i+1) t v h
  refine⟨by omega,?_⟩
  rw[show t-i=(t- (i+1))+1 by omega]
  simpa using h2
theorem aw {P:Program} {f:FuncId} {fn:Func} {c:Code} {args:Lv} {w:World} {R:Ending→World→Prop} (n:Nat)
 (hf:P.funcs[f]? =some fn) (hb:fn.body=some c) (hn:fn.ntmps=n) (hle:args.length≤n)
 (h: ∀a,Frm n (frame0 args 0) a→c.wp P (bodyPost P fn R) a w):Calls P f args.toArray w R:=by
 refine calls_of_wp hf hb (h _ ⟨by simp[hn];omega,rfl,λt v hv=>?_⟩)
 obtain⟨_,h2⟩:=kO args 0 t v hv
 simp only[Nat.sub_zero] at h2
 have hlt:t<args.length:=(List.getElem?_eq_some_iff.1 h2).1
 rw[List.getElem?_eq_getElem hlt] at h2
 simp only[Option.some.injEq] at h2
 simp[Array.getElem?_append,hlt,h2]
theorem Re {P : Program} {f : FuncId} {fn : Func} {c : Code} {args : List Value} {w : World} {R : Ending → World → Prop} (n : Nat) (hf : P.funcs[f]? = some fn) (hb : fn.body = some c) (h : ∀ a, Frm n (frame0 args 0) a → c.wp P (bodyPost P fn R) a w) (hn : fn.ntmps = n := by rfl) (hle : args.length ≤ n := by simp) : Calls P f args.toArray w R := aw n hf hb hn hle h
section
variable {P:Program} {fn:Func} {n:Nat} {L:Fr} {a:Act} {w:World} {R:Ending→World→Prop}
theorem lk (hf:Frm n L a dd) {t:Nat} {v:Value} (h:look L t=some v):a.tmps.getD t undef=v:=by simp[hf.at_ t v h]
theorem oQ (hf:Frm n L a) (hr:fn.results=#[]) (h:R (.returned (.tuple #[])) w):bodyPost P fn R .ret a w:=
 ⟨hf.defers,_,results_none hr _ P w,h⟩
theorem eN (hf:Frm n L a) (hr:fn.results=#[]) (h:R (.returned (.tuple #[])) w):bodyPost P fn R .normal a w:=
 ⟨hf.defers,_,results_none hr _ P w,h⟩
theorem am {t:Nat} {v:Value} (hf:Frm n L a) (hr:fn.results=#[.tmp t]) (hv:look L t=some v) (h:R (.returned v) w):bodyPost P fn R .ret a w:=
 ⟨hf.defers,_,by rw[results_tmp hr,lk hf hv],h⟩
theorem jR {t u:Nat} {v x:Value} (hf:Frm n L a) (hr:fn.results=#[.tmp t,.tmp u]) (hv:look L t=some v) (hx:look L u=some x) (h:R (.returned (.tuple #[v,x])) w):bodyPost P fn R .ret a w:=
 ⟨hf.defers,_,by rw[results_tmp2 hr,lk hf hv,lk hf hx],h⟩
theorem rC {t u s:Nat} {v x y:Value} (hf:Frm n L a) (hr:fn.results=#[.tmp t,.tmp u,.tmp s]) (hv:look L t=some v) (hx:look L u=some x) (hy:look L s=some y)
 (h:R (.returned (.tuple #[v,x,y])) w):bodyPost P fn R .ret a w:=
 ⟨hf.defers,_,by
  have h1:=lk hf hv;have h2:=lk hf hx;have h3:=lk hf hy
  simp only[Array.getD_eq_getD_getElem?] at h1 h2 h3
  simp[results,hr,h1,h2,h3],h⟩
end
end Go.Vc
namespace Go.Vc
open Go Go.RowKit
variable {dd:List Deferred}
def Mem:=Nat→Option Obj
def Mem.le (M M':Mem):Prop:=∀b o,M b=some o→M' b=some o
theorem Mem.le_refl (M:Mem):M.le M:=λ_ _ h=>h
theorem Mem.le.trans {M M' M'':Mem} (h:M.le M') (h':M'.le M''):M.le M'':=λb o e=>h' b o (h b o e)
def Mem.cell? (M:Mem) (a:Addr):Option Value:=
 match M a.block with
 |some (.cells c _ _)=>if a.spot.isSome then none else c[a.off]?
 |_=>none
theorem Mem.le.cell {M M':Mem} (h:M.le M') {a:Addr} {v:Value} (hc:M.cell? a=some v):M'.cell? a=some v:=by
 unfold Mem.cell? at*
 cases hb:M a.block with
 |none=>simp[hb] at hc
 |some o=>rw[h _ _ hb];rw[hb] at hc;exact hc
def Mem.add (M:Mem) (b:Nat) (o:Obj):Mem:=λi=>if i=b then some o else M i
def Mem.of (w:World):Mem:=λb=>w.heap[b]?
def ownsRowG (w:World) (base:Nat) (e:TypeId) (size:Nat) (v:Value) (n:Nat) (xs:Lv):Prop:=
 xs.length=n*size∧
 ((v=.slice none 0 0∧n=0)∨
  ∃g cap cur,v=.slice (some ⟨g,0,none⟩) n cap∧base≤g∧w.heap[g]? =some (.cells cur e (0,0))∧n≤cap∧cap≤maxLen∧(cap*size≤cur.size∧cur.size≤maxLen*size)∧cur.toList.take (n*size)=xs)
theorem blk_eq {cap size m:Nat} (h:cap≤maxLen) (e:m=cap*size):cap*size≤m∧m≤maxLen*size:=⟨Nat.le_of_eq e.symm,by rw[e];exact Nat.mul_le_mul_right _ h⟩
theorem ownsRowG.of {w:World} {base:Nat} {e:TypeId} {size:Nat} {v:Value} {n:Nat} {xs:Lv} (h:w.ownsRow base e size v n xs):ownsRowG w base e size v n xs:=by
 obtain⟨h1,h2⟩:=h
 refine⟨h1,?_⟩
 rcases h2 with h2|⟨g,cap,cur,r1,r2,r3,r4,r5,r6,r7⟩
 ·exact .inl h2
 exact .inr ⟨g,cap,cur,r1,r2,r3,r4,r5,blk_eq r5 r6,r7⟩
theorem ownsRowG.lt {w:World} {base:Nat} {e:TypeId} {size:Nat} {v:Value} {n:Nat} {xs:Lv} (h:ownsRowG w base e size v n xs) (b:Nat) (hb:v.ownBlock=some b):base≤b∧b<w.heap.size:=by
 obtain⟨_,⟨rfl,_⟩|⟨g,cap,cur,rfl,h2,h3,_⟩⟩:=h
 ·simp[Value.ownBlock] at hb
 simp[Value.ownBlock] at hb
 subst hb
 exact⟨h2,(Array.getElem?_eq_some_iff.1 h3).1⟩
inductive Ent
 |obj (b:Nat) (o:Obj)
 |row (e:TypeId) (size:Nat) (v:Value) (n:Nat) (xs:Lv)
section
variable {α : Type}
abbrev rO (e b : Nat) (A : Option Addr) (x : List α) (c : Nat) (L : List Value) : Ent := .row e b (.slice A x.length c) x.length L
abbrev oC (b : Nat) (c : Array Value) (T : Nat) : Ent := .obj b (.cells c T (0, 0))
end
def Ent.blk:Ent→Option Nat
 |.obj b _=>some b
 |.row _ _ v _ _=>v.ownBlock
def Ent.owns (B:Nat) (w:World):Ent→Prop
 |.obj b o=>B≤b∧w.heap[b]? =some o
 |.row e size v n xs=>ownsRowG w B e size v n xs
structure Hp (w0:World) (M:Mem) (H:List Ent) (w:World):Prop where
 below:Below w0.heap.size w0 w
 mem: ∀b o,M b=some o→w.heap[b]? =some o
 own: ∀e∈H,e.owns w0.heap.size w
 apart:H.Pairwise λx y=>∀b,x.blk=some b→y.blk≠some b
 free: ∀e∈H,∀b,e.blk=some b→M b=none
theorem kA {w:World} {b:Nat} {o:Obj} (h:w.heap[b]? =some o):b<w.heap.size:=(Array.getElem?_eq_some_iff.1 h).1
theorem Hp.start (w:World):Hp w (Mem.of w) [] w:=
 ⟨Below.refl _ _,λ_ _ h=>h,λ_ h=>by simp at h,.nil,λ_ h=>by simp at h⟩
section
variable {w0 w w':World} {M M':Mem} {H H':List Ent} {e:Ent} {b:Nat} {o:Obj}
theorem Hp.cell (h:Hp w0 M H w) {a:Addr} {v:Value} (hc:M.cell? a=some v):w.cell? a=some v:=by
 unfold Mem.cell? at hc
 unfold World.cell?
 cases hb:M a.block with
 |none=>simp[hb] at hc
 |some o=>rw[h.mem _ _ hb];rw[hb] at hc;exact hc
theorem Hp.less (h:Hp w0 M' H w) (hm:M.le M'):Hp w0 M H w:=
 ⟨h.below,λb o hb=>h.mem b o (hm b o hb),h.own,h.apart,λe he b hb=>by
  have:=h.free e he b hb
  cases hM:M b with
  |none=>rfl
  |some o=>rw[hm b o hM] at this;cases this⟩
theorem Hp.perm (h:Hp w0 M H w) (hp:H.Perm H'):Hp w0 M H' w:=
 ⟨h.below,h.mem,λe he=>h.own e (hp.mem_iff.2 he),hp.pairwise h.apart (λhxy b hy hx=>hxy b hx hy),λe he=>h.free e (hp.mem_iff.2 he)⟩
theorem Hp.drop (h:Hp w0 M (e::H) w):Hp w0 M H w:=
 ⟨h.below,h.mem,λx hx=>h.own x (List.mem_cons_of_mem _ hx),(List.pairwise_cons.1 h.apart).2,λx hx=>h.free x (List.mem_cons_of_mem _ hx)⟩
theorem Hp.dropN (h:Hp w0 M H w) (k:Nat):Hp w0 M (H.drop k) w:=
 ⟨h.below,h.mem,λx hx=>h.own x (List.mem_of_mem_drop hx),h.apart.sublist (List.drop_sublist _ _),λx hx=>h.free x (List.mem_of_mem_drop hx)⟩
theorem qz: ∀ (H:List Ent) (i:Nat) (e:Ent),H[i]? =some e→H.Perm (e::H.eraseIdx i)
 |[],i,e,h=>by simp at h
 |x::r,0,e,h=>by simp only[List.getElem?_cons_zero,Option.some.injEq] at h;subst h;exact .refl _
 |x::r,i+1,e,h=>by
  simp only[List.getElem?_cons_succ] at h
  exact((qz r i e h).cons x).trans (.swap e x _)
theorem Hp.pull (h:Hp w0 M H w) (i:Nat) {e:Ent} {H':List Ent} (he:H[i]? =some e) (hH:H.eraseIdx i=H'):Hp w0 M (e::H') w:=by
 subst hH;exact h.perm (qz H i e he)
theorem Ent.blk_lt {B:Nat} (h:e.owns B w) (hb:e.blk=some b):B≤b∧b<w.heap.size:=by
 cases e with
 |obj c o=>simp only[Ent.blk,Option.some.injEq] at hb;subst hb;exact⟨h.1,kA h.2⟩
 |row t size v n xs=>exact ownsRowG.lt h b hb
theorem Ent.owns_keep {B:Nat} (h:e.owns B w) (hk: ∀b,e.blk=some b→w'.heap[b]? =w.heap[b]?):e.owns B w':=by
 cases e with
 |obj c o=>exact⟨h.1,(hk c rfl).trans h.2⟩
 |row t size v n xs=>
  obtain⟨h1,h2⟩:=h
  refine⟨h1,?_⟩
  rcases h2 with h2|⟨g,cap,cur,rfl,hg,hh,r⟩
  ·exact .inl h2
  exact .inr ⟨g,cap,cur,rfl,hg,(hk g rfl).trans hh,r⟩
theorem Hp.drew (h:Hp w0 M H w):Hp w0 M H w.drew:=
 ⟨h.below.drew,h.mem,λe he=>Ent.owns_keep (h.own e he) λ_ _=>rfl,h.apart,h.free⟩
theorem Hp.drewN (h:Hp w0 M H w) (n:Nat):Hp w0 M H (w.drewN n):=
 ⟨⟨h.below.os,h.below.tape,h.below.output,h.below.size,h.below.block⟩,h.mem,λe he=>Ent.owns_keep (h.own e he) λ_ _=>rfl,h.apart,h.free⟩
theorem get_alloc (w:World) (o:Obj): (w.alloc o).heap[w.heap.size]? =some o:=by
 show(w.heap.push o)[w.heap.size]? =_
 simp
theorem Hp.alloc (h:Hp w0 M H w) (o:Obj):Hp w0 M (.obj w.heap.size o::H) (w.alloc o):=by
 have hlt: ∀e∈H,∀b,e.blk=some b→b<w.heap.size:=λe he b hb=>(Ent.blk_lt (h.own e he) hb).2
 refine⟨h.below.alloc h.below.size o,λb x hb=>?_,λe he=>?_,?_,λe he b hb=>?_⟩
 ·have:=h.mem b x hb
  rw[Below.heap_alloc w o b (kA this)];exact this
 ·rcases List.mem_cons.1 he with rfl|he
  ·exact⟨h.below.size,get_alloc w o⟩
  exact Ent.owns_keep (h.own e he) λb hb=>Below.heap_alloc w o b (hlt e he b hb)
 ·refine List.pairwise_cons.2 ⟨λe he b hb hb'=>?_,h.apart⟩
  simp only[Ent.blk,Option.some.injEq] at hb
  have:=hlt e he b hb'
  omega
 rcases List.mem_cons.1 he with rfl|he
 ·simp only[Ent.blk,Option.some.injEq] at hb
  subst hb
  cases hM:M w.heap.size with
  |none=>rfl
  |some x=>have:=kA (h.mem _ _ hM);omega
 exact h.free e he b hb
theorem Hp.write (h:Hp w0 M (.obj b o::H) w) {o':Obj} (h1:w'.os=w.os) (h2:w'.tape=w.tape) (h3:w'.output=w.output) (h4:w'.heap.size=w.heap.size)
 (h5:w'.heap[b]? =some o') (h6: ∀k,k≠b→w'.heap[k]? =w.heap[k]?):Hp w0 M (.obj b o'::H) w':=by
 have hb:=h.own _ List.mem_cons_self
 have hM:=h.free _ List.mem_cons_self b rfl
 have hap:=List.pairwise_cons.1 h.apart
 refine⟨⟨h1.trans h.below.os,h2.trans h.below.tape,h3.trans h.below.output,by have:=h.below.size;omega,λk hk=>?_⟩,λk x hk=>?_,λe he=>?_,?_,λe he k hk=>?_⟩
 ·rw[h6 k (by have:=hb.1;omega)];exact h.below.block k hk
 ·rw[h6 k (λe=>by subst e;rw[hM] at hk;cases hk)];exact h.mem k x hk
 ·rcases List.mem_cons.1 he with rfl|he2
  ·exact⟨hb.1,h5⟩
  exact Ent.owns_keep (h.own e (List.mem_cons_of_mem _ he2)) λk hk=>h6 k (λe'=>hap.1 e he2 b rfl (e'▸hk))
 ·exact List.pairwise_cons.2 ⟨λe he k hk=>hap.1 e he k hk,hap.2⟩
 rcases List.mem_cons.1 he with rfl|he
 ·exact h.free _ List.mem_cons_self k hk
 exact h.free e (List.mem_cons_of_mem _ he) k hk
theorem Hp.setCell {T:TypeId} {cs:Array Value} {fr:Nat×Nat} (h:Hp w0 M (.obj b (.cells cs T fr)::H) w) (i:Nat) (v:Value):
 Hp w0 M (.obj b (.cells (cs.setIfInBounds i v) T fr)::H) (w.setCell ⟨b,i,none⟩ v):=by
 have hb:=(h.own _ List.mem_cons_self).2
 refine h.write rfl rfl rfl (by simp[World.setCell]) ?_ (λk hk=>Below.heap_setCell w ⟨b,i,none⟩ v k hk)
 simp[World.setCell,Array.getElem?_modify,hb]
theorem Hp.ownCell {T:TypeId} {cs:Array Value} {fr:Nat×Nat} (h:Hp w0 M H w) (i:Nat) (he:H[i]? =some (.obj b (.cells cs T fr))) (j:Nat):w.cell? ⟨b,j,none⟩=cs[j]? :=by
 have:=(h.own _ (List.mem_of_getElem? he)).2
 simp[World.cell?,this]
theorem Hp.ownFrozen {T:TypeId} {cs:Array Value} {lo hi:Nat} (h:Hp w0 M H w) (i:Nat) (he:H[i]? =some (.obj b (.cells cs T (lo,hi)))) (j:Nat) (hj: ¬ (lo≤j∧j<hi)):w.frozen? ⟨b,j,none⟩=false:=by
 have:=(h.own _ (List.mem_of_getElem? he)).2
 simp[World.frozen?,this]
 omega
theorem Hp.freeze (h:Hp w0 M (.obj b o::H) w):M.le (M.add b o)∧Hp w0 (M.add b o) H w:=by
 have hM:=h.free _ List.mem_cons_self b rfl
 have hb:=h.own _ List.mem_cons_self
 have hap:=List.pairwise_cons.1 h.apart
 refine⟨λk x hk=>?_,h.below,λk x hk=>?_,λe he=>h.own e (List.mem_cons_of_mem _ he),hap.2,λe he k hk=>?_⟩
 ·unfold Mem.add
  split
  ·rename_i hkb;subst hkb;rw[hM] at hk;cases hk
  exact hk
 ·unfold Mem.add at hk
  split at hk
  ·rename_i hkb;subst hkb;cases hk;exact hb.2
  exact h.mem k x hk
 unfold Mem.add
 split
 ·rename_i hkb;subst hkb;exact absurd hk (hap.1 e he k rfl)
 exact h.free e (List.mem_cons_of_mem _ he) k hk
theorem Hp.nilRow (h:Hp w0 M H w) (t:TypeId) (size:Nat):Hp w0 M (.row t size (.slice none 0 0) 0 []::H) w:=
 ⟨h.below,h.mem,λe he=>by
  rcases List.mem_cons.1 he with rfl|he
  ·exact .of (World.ownsRow_nil _ _ _ _)
  exact h.own e he,
  List.pairwise_cons.2 ⟨λe _ b hb=>by simp[Ent.blk,Value.ownBlock] at hb,h.apart⟩,
  λe he b hb=>by
   rcases List.mem_cons.1 he with rfl|he
   ·simp[Ent.blk,Value.ownBlock] at hb
   exact h.free e he b hb⟩
theorem Hp.nilR {w0 : World} {M : Mem} {H : List Ent} {w : World} (h : Hp w0 M H w) (e sz : Nat) (α : Type) : ∃ A cap, Value.slice none 0 0 = .slice A ([] : List α).length cap ∧ Hp w0 M (.row e sz (.slice A ([] : List α).length cap) ([] : List α).length [] :: H) w := ⟨none, 0, rfl, h.nilRow e sz⟩
theorem Hp.rowAt {t:TypeId} {size n:Nat} {v:Value} {xs:Lv} (h:Hp w0 M H w) (i:Nat) (he:H[i]? =some (.row t size v n xs)):ownsRowG w w0.heap.size t size v n xs:=h.own _ (List.mem_of_getElem? he)
end
end Go.Vc
namespace Go.Vc
open Go Go.RowKit
variable {dd:List Deferred}
abbrev mkS (l:Bs):ByteArray:=⟨l.toArray⟩
abbrev S (l:Bs):Value:=.string ⟨l.toArray⟩
theorem pd (l:Bs): (mkS l).toList=l:=by rw[Lib.toList_data]
theorem S_eta (s:ByteArray):Value.string s=S s.data.toList:=by simp[S]
def isAggD:TypeDesc→Bool
 |.struct _|.array _ _=>true
 |_=>false
def one1 (P:Program) (t:TypeId):Bool:=match P.underlying t with|some d=> !isAggD d|none=>false
def aggN (P:Program) (t:TypeId) (n:Nat):Bool:=match P.underlying t,P.info? t with|some d,some i=>isAggD d&&Nat.beq i.size n|_,_=>false
def szIs (P:Program) (t:TypeId) (n:Nat):Bool:=match P.info? t with|some i=>Nat.beq i.size n|none=>false
section
variable {P:Program} {w:World} {ρ:Operand→Value} {o:Oper}
theorem ja {t n:Nat} (h:szIs P t n=true): (sizeOf t).run P w=.ok n w:=by
 unfold szIs at h
 cases hi:P.info? t with
 |none=>simp[hi] at h
 |some i=>simp only[hi] at h;have:=Nat.eq_of_beq_eq_true h;simp[sizeOf,typeInfo,hi,this]
theorem sA {t:TypeId} (h:one1 P t=true): (isAgg t).run P w=.ok false w:=by
 unfold one1 at h
 cases hu:P.underlying t with
 |none=>simp[hu] at h
 |some d=>
  unfold isAgg
  rw[Sem.run_bind,run_underlying hu w]
  cases d<;>simp_all[isAggD]
theorem sB {t n:Nat} (h:aggN P t n=true): (isAgg t).run P w=.ok true w∧szIs P t n=true:=by
 unfold aggN at h
 cases hu:P.underlying t with
 |none=>simp[hu] at h
 |some d=>
  cases hi:P.info? t with
  |none=>simp[hu,hi] at h
  |some i=>
   simp only[hu,hi,Bool.and_eq_true] at h
   refine⟨?_,by simp[szIs,hi,h.2]⟩
   unfold isAgg
   rw[Sem.run_bind,run_underlying hu w]
   cases d<;>simp_all[isAggD]
theorem eo {t:TypeId} {x:Operand} {ad:Addr} {v:Value} (ho:o.op=.load t x) (hx:ρ x=.pointer (some ad)) (ht:one1 P t=true) (hc:w.cell? ad=some v): (execOp ρ o).run P w=.ok (.value v) w:=by
 unfold execOp
 simp only[ho,hx,Instr.loadAt,Instr.sureAddr,Sem.run_bind,Sem.run_pure,Result.andThen_ok,loadVar,sA ht]
 simp[hc]
theorem X_loadN {t:TypeId} {x:Operand} {ad:Addr} {cs:Lv} (ho:o.op=.load t x) (hx:ρ x=.pointer (some ad)) (ht:aggN P t cs.length=true) (hc: ∀j v,cs[j]? =some v→w.cell? (ad.add j)=some v):
 (execOp ρ o).run P w=.ok (.value (.agg cs.toArray)) w:=by
 obtain⟨h1,h2⟩:=sB (w:=w) ht
 unfold execOp
 simp only[ho,hx,Instr.loadAt,Instr.sureAddr,Sem.run_bind,Sem.run_pure,Result.andThen_ok,loadVar,h1,if_true,ja h2,run_loadCells_list w ad cs hc]
theorem X_store1 {t:TypeId} {x y:Operand} {ad:Addr} {v u:Value} (ho:o.op=.store t x y) (hx:ρ x=.pointer (some ad)) (hy:ρ y=v) (hv:v.oneCell'=true) (hs:szIs P t 1=true) (hc:w.cell? ad=some u) (hf:w.frozen? ad=false):
 (execOp ρ o).run P w=.ok .skip (w.setCell ad v):=by
 have hcells:v.cells=#[v]:=by cases v<;>simp_all[Value.cells,Value.oneCell']
 unfold execOp
 simp only[ho,hx,hy,Instr.storeAt,Instr.sureAddr,Sem.run_bind,Sem.run_pure,Result.andThen_ok,storeVar,hcells,ja hs]
 cases v<;>simp_all[storeCells,store,Sem.run,Addr.add,Value.oneCell']
theorem qK {t e sz:Nat} {x ix:Operand} {ad:Addr} {len cap:Nat} {k:IntKind} {i:Int} (ho:o.op=.indexAddr t x ix) (hx:ρ x=.slice (some ad) len cap) (hi:ρ ix=.int k i) (ht:P.underlying t=some (.slice e))
 (hs:szIs P e sz=true) (h0:0≤i) (h1:i<len): (execOp ρ o).run P w=.ok (.value (.pointer (some (ad.add (i.toNat*sz))))) w:=by
 unfold execOp
 simp only[ho,hx,hi,Instr.indexAt,asIntOf,Sem.run_bind,Sem.run_pure,Result.andThen_ok,run_underlying ht]
 simp[h0,h1,ja hs]
theorem dN {t:Nat} {x ix:Operand} {l:Bs} {k:IntKind} {i:Int} (ho:o.op=.index t x ix) (hx:ρ x=S l) (hi:ρ ix=.int k i) (ht:P.underlying t=some .string)
 (h0:0≤i) (h1:i<l.length): (execOp ρ o).run P w=.ok (.value (.int .u8 (l.getD i.toNat 0).toNat)) w:=by
 have hlt:i.toNat<l.length:=by omega
 have hg: (mkS l)[i.toNat]? =some (l.getD i.toNat 0):=by
  have: (mkS l).size=l.length:=rfl
  rw[getElem?_pos (mkS l) i.toNat (by omega)]
  simp[List.getD,hlt]
  rfl
 unfold execOp
 simp only[ho,hx,hi,Instr.index,asIntOf,Sem.run_bind,Sem.run_pure,Result.andThen_ok,run_underlying ht]
 simp only[h0,if_true,hg]
 rfl
theorem nH (l:Bs) (a b:Nat): (mkS l).extract a b=mkS ((l.take b).drop a):=by
 have h:=Lib.extract_data (mkS l) a b
 have e: ∀s:ByteArray,s=⟨s.data.toList.toArray⟩:=λs=>by simp
 rw[e ((mkS l).extract a b),h]
 simp[List.drop_take]
theorem oR {t:Nat} {x lo hi:Operand} {l:Bs} {k k':IntKind} {a b:Int} (ho:o.op=.slice t x (some lo) (some hi) none) (hx:ρ x=S l) (hlo:ρ lo=.int k a) (hhi:ρ hi=.int k' b) (ht:P.underlying t=some .string)
 (h0:0≤a) (h1:a≤b) (h2:b≤l.length): (execOp ρ o).run P w=.ok (.value (S ((l.take b.toNat).drop a.toNat))) w:=by
 have hb0:0≤b:=by omega
 have hsz: ((mkS l).size:Int)=l.length:=rfl
 obtain⟨a,rfl⟩:=Int.eq_ofNat_of_zero_le h0
 obtain⟨b,rfl⟩:=Int.eq_ofNat_of_zero_le hb0
 have hn:a≤b:=by omega
 unfold execOp
 simp only[ho,hx,hlo,hhi,Option.map,Instr.sliceAt,Sem.run_bind,Sem.run_pure,Result.andThen_ok,run_underlying ht,Instr.slice,Instr.sliceBounds,Instr.sliceBound,asIntOf]
 simp only[Int.toNat_natCast]
 have hm': ¬ (({data:=l.toArray}:ByteArray).size<b):=by show ¬ (l.length<b);omega
 simp[hsz,hm',hn,nH]
theorem oh {t:Nat} {x lo:Operand} {l:Bs} {k:IntKind} {a:Int} (ho:o.op=.slice t x (some lo) none none) (hx:ρ x=S l) (hlo:ρ lo=.int k a) (ht:P.underlying t=some .string)
 (h0:0≤a) (h1:a≤l.length): (execOp ρ o).run P w=.ok (.value (S (l.drop a.toNat))) w:=by
 have hsz: (mkS l).size=l.length:=rfl
 unfold execOp
 simp only[ho,hx,hlo,Option.map,Instr.sliceAt,Sem.run_bind,Sem.run_pure,Result.andThen_ok,run_underlying ht,Instr.slice,Instr.sliceBounds,Instr.sliceBound,asIntOf]
 simp[h0,hsz,h1,nH]
theorem X_strTo {t:Nat} {x hi:Operand} {l:Bs} {k':IntKind} {b:Int} (ho:o.op=.slice t x none (some hi) none) (hx:ρ x=S l) (hhi:ρ hi=.int k' b) (ht:P.underlying t=some .string)
 (h0:0≤b) (h2:b≤l.length): (execOp ρ o).run P w=.ok (.value (S (l.take b.toNat))) w:=by
 have hsz: ((mkS l).size:Int)=l.length:=rfl
 unfold execOp
 simp only[ho,hx,hhi,Option.map,Instr.sliceAt,Sem.run_bind,Sem.run_pure,Result.andThen_ok,run_underlying ht,Instr.slice,Instr.sliceBounds,Instr.sliceBound,asIntOf]
 simp[h0,hsz,h2,nH]
theorem beq_dec (l m:Bs): (l==m)=decide (l=m):=by rw[Bool.eq_iff_iff];simp
theorem append_mkS (l m:Bs):mkS l++mkS m=mkS (l++m):=by
 apply ByteArray.ext
 simp[ByteArray.data_append]
theorem kJ {t t':Nat} {x y:Operand} {l m:Bs} (ho:o.op=.binOp .add t x y t') (hx:ρ x=S l) (hy:ρ y=S m) (h:l.length+m.length≤9223372036854775807): (execOp ρ o).run P w=.ok (.value (S (l++m))) w:=by
 have h1: (mkS l).size=l.length:=rfl
 have h2: (mkS m).size=m.length:=rfl
 have hs: ¬ ((((mkS l).size+ (mkS m).size:Nat):Int)>IntKind.i64.max):=by
  rw[h1,h2];simp only[IntKind.max,IntKind.signed,IntKind.bits];omega
 unfold execOp
 simp only[ho,hx,hy,eqGuard,binOp,Op.stringOp,Sem.run_bind]
 simp only[if_neg hs,append_mkS]
 rfl
theorem X_streq {t t':Nat} {x y:Operand} {l m:Bs} (ho:o.op=.binOp .eql t x y t') (hx:ρ x=S l) (hy:ρ y=S m): (execOp ρ o).run P w=.ok (.value (.bool (decide (l=m)))) w:=by
 unfold execOp
 simp only[ho,hx,hy,eqGuard,binOp,Op.stringOp,pd,beq_dec]
 rfl
theorem Y11 {t t':Nat} {x y:Operand} {l m:Bs} (ho:o.op=.binOp .eql t x y t') (hx:ρ x=S l:=by kernel_rfl) (hy:ρ y=S m:=by kernel_rfl): (execOp ρ o).run P w=.ok (.value (bO (decide (l=m)))) w:=X_streq ho hx hy
theorem ep {t t':Nat} {x y:Operand} {l m:Bs} (ho:o.op=.binOp .neq t x y t') (hx:ρ x=S l) (hy:ρ y=S m): (execOp ρ o).run P w=.ok (.value (.bool (!decide (l=m)))) w:=by
 unfold execOp
 simp only[ho,hx,hy,eqGuard,binOp,Op.stringOp,pd,beq_dec]
 rfl
theorem X_strlt {t t':Nat} {x y:Operand} {l m:Bs} (ho:o.op=.binOp .lss t x y t') (hx:ρ x=S l) (hy:ρ y=S m): (execOp ρ o).run P w=.ok (.value (.bool (Op.bytesLess l m))) w:=by
 unfold execOp
 simp only[ho,hx,hy,eqGuard,binOp,Op.stringOp,pd]
 rfl
def cutA (A:Oa) (sz l m:Nat):Oa:=if m=l then A else A.map (·.add (l*sz))
theorem qL {t e sz:Nat} {x lo:Operand} {A:Oa} {len cap:Nat} {k:IntKind} {a:Int} (ho:o.op=.slice t x (some lo) none none) (hx:ρ x=.slice A len cap) (hlo:ρ lo=.int k a) (ht:P.underlying t=some (.slice e))
 (hs:szIs P e sz=true) (h0:0≤a) (h1:a≤len): (execOp ρ o).run P w=.ok (.value (.slice (cutA A sz a.toNat cap) (len-a.toNat) (cap-a.toNat))) w:=by
 unfold execOp
 simp only[ho,hx,hlo,Option.map,Instr.sliceAt,Sem.run_bind,Sem.run_pure,Result.andThen_ok,run_underlying ht,Instr.slice,Instr.sliceBounds,Instr.sliceBound,asIntOf]
 simp[h0,h1,ja hs,cutA]
 rfl
theorem og {t e sz:Nat} {x hi:Operand} {A:Oa} {len cap:Nat} {k':IntKind} {b:Int} (ho:o.op=.slice t x none (some hi) none) (hx:ρ x=.slice A len cap) (hhi:ρ hi=.int k' b) (ht:P.underlying t=some (.slice e))
 (hs:szIs P e sz=true) (h0:0≤b) (h2:b≤cap): (execOp ρ o).run P w=.ok (.value (.slice (cutA A sz 0 cap) b.toNat cap)) w:=by
 unfold execOp
 simp only[ho,hx,hhi,Option.map,Instr.sliceAt,Sem.run_bind,Sem.run_pure,Result.andThen_ok,run_underlying ht,Instr.slice,Instr.sliceBounds,Instr.sliceBound,asIntOf]
 simp[h0,h2,ja hs,cutA]
 rfl
def eb (l:Bs):Lv:=l.map λb=>.int .u8 b.toNat
end
end Go.Vc
namespace Go.Vc
open Go Go.RowKit
variable {dd:List Deferred}
def Ok (P:Program) (M:Mem) (f:FuncId) (args:Lv) (Post:Mem→Value→Prop):Prop:=
 ∀M2,M.le M2→∀w0 H w,Hp w0 M2 H w→Calls P f args.toArray w λe w'=>∃v,e=.returned v∧∃M',M2.le M'∧Hp w0 M' H w'∧Post M' v
def OkH (P:Program) (M:Mem) (E:List Ent) (f:FuncId) (args:Lv) (Post:Mem→List Ent→Value→Prop):Prop:=
 ∀M2,M.le M2→∀w0 H w,Hp w0 M2 (E++H) w→Calls P f args.toArray w λe w'=>∃v,e=.returned v∧∃M' E',M2.le M'∧Hp w0 M' (E'++H) w'∧Post M' E' v
theorem Ok.mono {P:Program} {M:Mem} {f:FuncId} {args:Lv} {Post Post':Mem→Value→Prop} (h:Ok P M f args Post) (hq: ∀M' v,M.le M'→Post M' v→Post' M' v):Ok P M f args Post':=
 λM2 h2 w0 H w hp=>(h M2 h2 w0 H w hp).mono λ_ _ ⟨v,he,M',hM,hp',hv⟩=>⟨v,he,M',hM,hp',hq M' v (h2.trans hM) hv⟩
theorem Ok.args {P:Program} {M:Mem} {f:FuncId} {args args':Lv} {Post:Mem→Value→Prop} (h:Ok P M f args Post) (e:args=args'):Ok P M f args' Post:=e▸h
theorem Hp.at_set {w0 w:World} {M:Mem} {H:List Ent} {e:Ent} (i:Nat) (hi:i<H.length) (h:Hp w0 M (e::H.eraseIdx i) w):Hp w0 M (H.set i e) w:=by
 have:=qz (H.set i e) i e (by simp[hi])
 rw[List.eraseIdx_set_eq] at this
 exact h.perm this.symm
section
variable {P:Program} {ops:Array Oper} {n:Nat} {Q:Exit→Act→World→Prop} {L:Fr} {a:Act} {w0 w:World} {M:Mem} {H:List Ent}
theorem W_alloc {l:List Oper} (hf:Frm n L a dd) (hp:Hp w0 M H w) (m:Nat) (ks:List Nat) (o:Obj) (L':Nat→Fr)
 (h: ∀w,runK P ops n (l.take m) ks L w=some (L' w.heap.size,w.alloc o)) (hk: ∀b w',Hp w0 M (.obj b o::H) w'→∀a',Frm n (L' b) a' dd→wpList P ops Q (l.drop m) a' w'):wpList P ops Q l a w:=
 iU hf m ks (h w) (hk w.heap.size (w.alloc o) (hp.alloc o))
theorem jF {o:Oper} {rest:List Oper} {t:TypeId} {x y:Operand} {b j:Nat} {v:Value} {cs:Array Value} {T:TypeId} {lo hi:Nat} (hf:Frm n L a dd) (hp:Hp w0 M H w) (i:Nat)
 (hw:bi ops L o=some true) (hr:bW L o=true) (hd:o.dst=none) (ho:o.op=.store t x y) (hx:ev L x=.pointer (some ⟨b,j,none⟩)) (hy:ev L y=v) (hv:v.oneCell'=true) (hs:szIs P t 1=true)
 (he:H[i]? =some (.obj b (.cells cs T (lo,hi)))) (hj:j<cs.size) (hfr: ¬ (lo≤j∧j<hi)) (H':List Ent) (hH:H.set i (.obj b (.cells (cs.setIfInBounds j v) T (lo,hi)))=H')
 (hk: ∀w',Hp w0 M H' w'→∀a',Frm n L a' dd→wpList P ops Q rest a' w'):wpList P ops Q (o::rest) a w:=by
 subst hH
 have hc:w.cell? ⟨b,j,none⟩=some cs[j]:=(hp.ownCell i he j).trans (by simp[hj])
 refine W_skip hf hw hr hd (X_store1 ho hx hy hv hs hc (hp.ownFrozen i he j hfr)) (hk _ ?_)
 exact Hp.at_set i (List.getElem?_eq_some_iff.1 he).1 ((hp.pull i he rfl).setCell j v)
theorem W_ok {o:Oper} {rest:List Oper} {d:Nat} {f:FuncId} {args:Lv} {Post:Mem→Value→Prop} (hf:Frm n L a dd) (hp:Hp w0 M H w) (hw:bi ops L o=some true) (hr:bW L o=true)
 (hd:o.dst=some d) (hdn:Nat.blt d n=true) (hx: ∀w,(execOp (ev L) o).run P w=.ok (.enter f args.toArray) w) (hc:Ok P M f args Post)
 (hk: ∀v M' w',M.le M'→Hp w0 M' H w'→Post M' v→∀a',Frm n ((d,v)::L) a' dd→wpList P ops Q rest a' w'):wpList P ops Q (o::rest) a w:=
 W_call (R:=λv w'=>∃M',M.le M'∧Hp w0 M' H w'∧Post M' v) hf hw hr hd hdn (hx w) (hc M (Mem.le_refl M) w0 H w hp) λv w' ⟨M',h1,h2,h3⟩ a' ha=>hk v M' w' h1 h2 h3 a' ha
theorem W_okv {o:Oper} {rest:List Oper} {d:Nat} {f:FuncId} {args:Lv} {v:Value} (hf:Frm n L a dd) (hp:Hp w0 M H w) (hw:bi ops L o=some true) (hr:bW L o=true)
 (hd:o.dst=some d) (hdn:Nat.blt d n=true) (hx: ∀w,(execOp (ev L) o).run P w=.ok (.enter f args.toArray) w) (hc:Ok P M f args λ_ u=>u=v)
 (hk: ∀w',Hp w0 M H w'→∀a',Frm n ((d,v)::L) a' dd→wpList P ops Q rest a' w'):wpList P ops Q (o::rest) a w:=
 W_ok hf hp hw hr hd hdn hx hc λu M' w' h1 h2 h3 a' ha=>by subst h3;exact hk w' (h2.less h1) a' ha
theorem W_okH {o:Oper} {rest:List Oper} {d:Nat} {f:FuncId} {args:Lv} {E:List Ent} {Post:Mem→List Ent→Value→Prop} (hf:Frm n L a dd) (hp:Hp w0 M (E++H) w) (hw:bi ops L o=some true) (hr:bW L o=true)
 (hd:o.dst=some d) (hdn:Nat.blt d n=true) (hx: ∀w,(execOp (ev L) o).run P w=.ok (.enter f args.toArray) w) (hc:OkH P M E f args Post)
 (hk: ∀v M' E' w',M.le M'→Hp w0 M' (E'++H) w'→Post M' E' v→∀a',Frm n ((d,v)::L) a' dd→wpList P ops Q rest a' w'):wpList P ops Q (o::rest) a w:=
 W_call (R:=λv w'=>∃M' E',M.le M'∧Hp w0 M' (E'++H) w'∧Post M' E' v) hf hw hr hd hdn (hx w) (hc M (Mem.le_refl M) w0 H w hp) λv w' ⟨M',E',h1,h2,h3⟩ a' ha=>hk v M' E' w' h1 h2 h3 a' ha
theorem aW {c:Code} (Mid:Act→World→Prop) (h:c.wp P (Exit.then Mid Q) a w) (hk: ∀a w,Mid a w→Q .normal a w):c.wp P Q a w:=
 wp_mono h λe a w hq=>by
  cases e with
  |normal=>exact hk a w hq
  |_=>exact hq
theorem wp_loop_x {σ:Type} {c:Code} (J:σ→Act→World→Prop) (μ:σ→Nat) (x0:σ) (h0:J x0 a w)
 (round: ∀x a w,J x a w→c.wp P (Exit.then (λa' w'=>∃x',μ x'<μ x∧J x' a' w') Q) a w): (Code.loop c).wp P Q a w:=by
 refine wp_loop_ghost (λk a w=>∃x,μ x=k∧J x a w) (μ x0) ⟨x0,rfl,h0⟩ ?_
 rintro k a w ⟨x,rfl,hx⟩
 refine wp_mono (round x a w hx) λe a' w' hq=>?_
 cases e with
 |normal=>obtain⟨x',h1,h2⟩:=hq;exact⟨μ x',h1,x',rfl,h2⟩
 |_=>exact hq
theorem R_loop {σ:Type} {c:Code} (Lf:σ→Fr) (Hf:σ→List Ent) (I:σ→Mem→Prop) (μ:σ→Nat) (x0:σ) (hf:Frm n (Lf x0) a dd) (hp:Hp w0 M (Hf x0) w) (hi:I x0 M)
 (round: ∀x M' a w,M.le M'→I x M'→Frm n (Lf x) a dd→Hp w0 M' (Hf x) w→c.wp P (Exit.then (λa' w'=>∃x',μ x'<μ x∧∃M',M.le M'∧I x' M'∧Frm n (Lf x') a' dd∧Hp w0 M' (Hf x') w') Q) a w):
 (Code.loop c).wp P Q a w:=
 wp_loop_x (λx a w=>∃M',M.le M'∧I x M'∧Frm n (Lf x) a dd∧Hp w0 M' (Hf x) w) μ x0 ⟨M,Mem.le_refl M,hi,hf,hp⟩ λx a w ⟨M',h1,h2,h3,h4⟩=>round x M' a w h1 h2 h3 h4
end
inductive Dat
 |int (k:IntKind) (n:Int)
 |bool (b:Bool)
 |str (l:Bs)
 |list (sz:Nat) (ds:List Dat)
 |struct (ds:List Dat)
mutual
def Rep (M:Mem):Dat→Lv→Prop
 |.int k n,cs=>cs=[.int k n]
 |.bool b,cs=>cs=[.bool b]
 |.str l,cs=>cs=[S l]
 |.list sz ds,cs=>∃A cap,cs=[.slice A ds.length cap]∧ds.length≤cap∧(A=none→cap=0)∧(ds=[]∨∃ad,A=some ad∧RepArr M sz ds ad)
 |.struct ds,cs=>ae M ds cs
def ae (M:Mem):List Dat→Lv→Prop
 |[],cs=>cs=[]
 |d::ds,cs=>∃c1 c2,cs=c1++c2∧Rep M d c1∧ae M ds c2
def RepArr (M:Mem) (sz:Nat):List Dat→Addr→Prop
 |[],_=>True
 |d::ds,ad=>(∃c,c.length=sz∧Rep M d c∧∀j v,c[j]? =some v→M.cell? (ad.add j)=some v)∧RepArr M sz ds (ad.add sz)
end
mutual
theorem Rep.mono {M M':Mem} (h:M.le M'): ∀ (d:Dat) (cs:Lv),Rep M d cs→Rep M' d cs
 |.int _ _,_,hr=>hr
 |.bool _,_,hr=>hr
 |.str _,_,hr=>hr
 |.list sz ds,cs,hr=>by
  obtain⟨A,cap,h1,h2,hn,h3⟩:=hr
  refine⟨A,cap,h1,h2,hn,?_⟩
  rcases h3 with h3|⟨ad,h4,h5⟩
  ·exact .inl h3
  ·exact .inr ⟨ad,h4,RepArr.mono h sz ds ad h5⟩
 |.struct ds,cs,hr=>ae.mono h ds cs hr
theorem ae.mono {M M':Mem} (h:M.le M'): ∀ (ds:List Dat) (cs:Lv),ae M ds cs→ae M' ds cs
 |[],_,hr=>hr
 |d::ds,cs,hr=>by
  obtain⟨c1,c2,h1,h2,h3⟩:=hr
  exact⟨c1,c2,h1,Rep.mono h d c1 h2,ae.mono h ds c2 h3⟩
theorem RepArr.mono {M M':Mem} (h:M.le M') (sz:Nat): ∀ (ds:List Dat) (ad:Addr),RepArr M sz ds ad→RepArr M' sz ds ad
 |[],_,_=>trivial
 |d::ds,ad,hr=>by
  obtain⟨⟨c,h1,h2,h3⟩,h4⟩:=hr
  exact⟨⟨c,h1,Rep.mono h d c h2,λj v hv=>h.cell (h3 j v hv)⟩,RepArr.mono h sz ds _ h4⟩
end
theorem hT (a:Addr) (i j:Nat): (a.add i).add j=a.add (i+j):=by
 unfold Addr.add
 by_cases hi:i=0<;>by_cases hj:j=0<;>simp[hi,hj,Nat.add_assoc]
theorem RepArr.get {M:Mem} {sz:Nat}: ∀ {ds:List Dat} {ad:Addr} (i:Nat) (d:Dat),RepArr M sz ds ad→ds[i]? =some d→
 ∃c,c.length=sz∧Rep M d c∧∀j v,c[j]? =some v→M.cell? ((ad.add (i*sz)).add j)=some v
 |[],_,i,d,_,h=>by simp at h
 |x::ds,ad,0,d,hr,h=>by
  simp only[List.getElem?_cons_zero,Option.some.injEq] at h
  subst h
  obtain⟨⟨c,h1,h2,h3⟩,_⟩:=hr
  exact⟨c,h1,h2,by simpa [Addr.add] using h3⟩
 |x::ds,ad,i+1,d,hr,h=>by
  simp only[List.getElem?_cons_succ] at h
  obtain⟨c,h1,h2,h3⟩:=RepArr.get i d hr.2 h
  refine⟨c,h1,h2,λj v hv=>?_⟩
  have:=h3 j v hv
  simp only[hT] at this ⊢
  rwa [show(i+1)*sz+j=sz+i*sz+j by rw[Nat.add_mul];omega]
end Go.Vc
namespace Go.Vc
open Go Go.RowKit
variable {dd:List Deferred}
theorem ar {b:Bool} {p:Prop} (h:b=true↔p): (!b)=true↔ ¬p:=by cases b<;>simp_all
theorem aj {b:Bool} {p:Prop} (h:b=true↔p) (k:b=false): ¬p:=λhp=>by rw[h.2 hp] at k;cases k
theorem byte_lt (c:UInt8): (c.toNat:Int)<256:=by have:=c.toNat_lt;omega
theorem ow {w:World} {b:Nat} {cells:Array Value} {cs:Lv} (h: ∀j,w.cell? ⟨b,j,none⟩=cells[j]?) (off':Nat) (he: (cells.toList.drop off').take cs.length=cs):
 ∀j v,cs[j]? =some v→w.cell? ((⟨b,off',none⟩:Addr).add j)=some v:=by
 intro j v hv
 rw[Addr.add_lit,h,←Array.getElem?_toList]
 have hj:j<cs.length:=(List.getElem?_eq_some_iff.1 hv).1
 rw[←he,List.getElem?_take_of_lt hj,List.getElem?_drop] at hv
 exact hv
theorem rem_nn {x y:Int} (h:0≤x):x.tmod y=x % y:=Int.tmod_eq_emod_of_nonneg h
theorem quo_i64 {x y:Int} (h:0≤x) (hy:0<y) (hx:x≤9223372036854775807):IntKind.i64.wrap (x.tdiv y)=x / y:=by
 rw[Int.tdiv_eq_ediv_of_nonneg h]
 refine IntWalk.i64_in _ ⟨?_,?_⟩
 ·have:=Int.ediv_nonneg h (Int.le_of_lt hy);omega
 have:=Int.ediv_le_self y h;omega
theorem i8_in {x:Int} (h: -128≤x∧x≤127):IntKind.i8.wrap x=x:=by simp[IntKind.wrap,IntKind.bits,IntKind.signed];omega
theorem i32_in {x:Int} (h: -2147483648≤x∧x≤2147483647):IntKind.i32.wrap x=x:=by simp[IntKind.wrap,IntKind.bits,IntKind.signed];omega
end Go.Vc
namespace Go.Vc
open Go Go.RowKit
variable {dd:List Deferred}
section
variable {w0 w w':World} {M M':Mem} {H:List Ent}
theorem Hp.rowObj {e:TypeId} {size:Nat} {v:Value} {n:Nat} {xs:Lv} (h:Hp w0 M (.row e size v n xs::H) w):
 (v=.slice none 0 0∧n=0∧xs=[]∧Hp w0 M H w)∨∃g cap cur,v=.slice (some ⟨g,0,none⟩) n cap∧n≤cap∧cap≤maxLen∧(cap*size≤cur.size∧cur.size≤maxLen*size)∧cur.toList.take (n*size)=xs∧xs.length=n*size∧Hp w0 M (.obj g (.cells cur e (0,0))::H) w:=by
 have ho:=h.own _ List.mem_cons_self
 obtain⟨h1,h2⟩:=ho
 rcases h2 with⟨rfl,rfl⟩|⟨g,cap,cur,rfl,hg,hh,hnc,hcm,hcs,htk⟩
 ·refine .inl ⟨rfl,rfl,List.eq_nil_of_length_eq_zero (by simpa using h1),h.drop⟩
 refine .inr ⟨g,cap,cur,rfl,hnc,hcm,hcs,htk,h1,⟨h.below,h.mem,λx hx=>?_,?_,λx hx=>?_⟩⟩
 ·rcases List.mem_cons.1 hx with rfl|hx
  ·exact⟨hg,hh⟩
  exact h.own x (List.mem_cons_of_mem _ hx)
 ·have hap:=List.pairwise_cons.1 h.apart
  exact List.pairwise_cons.2 ⟨λx hx b hb=>hap.1 x hx b (by simpa [Ent.blk,Value.ownBlock] using hb),hap.2⟩
 intro b hb
 rcases List.mem_cons.1 hx with rfl|hx
 ·exact h.free _ List.mem_cons_self b (by simpa [Ent.blk,Value.ownBlock] using hb)
 exact h.free x (List.mem_cons_of_mem _ hx) b hb
theorem lu (M:Mem) (b:Nat) (c:Array Value) (T:TypeId) (fr:Nat×Nat) (j:Nat): (M.add b (.cells c T fr)).cell? ⟨b,j,none⟩=c[j]? :=by simp[Mem.cell?,Mem.add]
theorem Hp.rowKnown {e:TypeId} {size:Nat} {v:Value} {n:Nat} {xs:Lv} (h:Hp w0 M (.row e size v n xs::H) w):
 ∃M',M.le M'∧Hp w0 M' H w∧((v=.slice none 0 0∧n=0∧xs=[])∨∃ad cap,v=.slice (some ad) n cap∧n≤cap∧xs.length=n*size∧∀j u,xs[j]? =some u→M'.cell? (ad.add j)=some u):=by
 rcases h.rowObj with⟨h1,h2,h3,h4⟩|⟨g,cap,cur,h1,h2,h3,h4,h5,h6,h7⟩
 ·exact⟨M,Mem.le_refl M,h4,.inl ⟨h1,h2,h3⟩⟩
 obtain⟨k1,k2⟩:=h7.freeze
 refine⟨_,k1,k2,.inr ⟨⟨g,0,none⟩,cap,h1,h2,h6,λj u hu=>?_⟩⟩
 rw[Addr.add_lit,lu,←Array.getElem?_toList]
 have hj:j<n*size:=h6▸ (List.getElem?_eq_some_iff.1 hu).1
 rw[←h5,List.getElem?_take_of_lt hj] at hu
 simpa using hu
end
section
variable {w0 w w':World} {M M':Mem} {H:List Ent} {b:Nat}
theorem Hp.objRow {e:TypeId} {size n cap:Nat} {cur:Array Value} {xs:Lv} (h:Hp w0 M (.obj b (.cells cur e (0,0))::H) w) (h1:n≤cap) (h2:cap≤maxLen) (h3:cap*size≤cur.size∧cur.size≤maxLen*size) (h4:cur.toList.take (n*size)=xs) (h5:xs.length=n*size):
 Hp w0 M (.row e size (.slice (some ⟨b,0,none⟩) n cap) n xs::H) w:=by
 have hb:=h.own _ List.mem_cons_self
 have hap:=List.pairwise_cons.1 h.apart
 refine⟨h.below,h.mem,λx hx=>?_,List.pairwise_cons.2 ⟨λx hx k hk=>hap.1 x hx k (by simpa [Ent.blk,Value.ownBlock] using hk),hap.2⟩,λx hx k hk=>?_⟩
 ·rcases List.mem_cons.1 hx with rfl|hx
  ·exact⟨h5,.inr ⟨b,cap,cur,rfl,hb.1,hb.2,h1,h2,h3,h4⟩⟩
  exact h.own x (List.mem_cons_of_mem _ hx)
 rcases List.mem_cons.1 hx with rfl|hx
 ·exact h.free _ List.mem_cons_self k (by simpa [Ent.blk,Value.ownBlock] using hk)
 exact h.free x (List.mem_cons_of_mem _ hx) k hk
end
def setM (cs:Array Value) (o:Nat):Lv→Array Value
 |[]=>cs
 |v::r=>setM (cs.setIfInBounds o v) (o+1) r
theorem qD: ∀ (vs:Lv) (cs:Array Value) (o:Nat),(setM cs o vs).size=cs.size
 |[],_,_=>rfl
 |v::r,cs,o=>by rw[setM,qD r];simp
theorem ox: ∀ (vs:Lv) (cs:Array Value) (o:Nat),o+vs.length≤cs.size→(setM cs o vs).toList=cs.toList.take o++vs++cs.toList.drop (o+vs.length)
 |[],cs,o,_=>by simp[setM]
 |v::r,cs,o,h=>by
  simp only[List.length_cons] at h
  rw[setM,ox r _ _ (by simp;omega),Array.toList_setIfInBounds]
  have hl:o<cs.toList.length:=by simp;omega
  rw[List.take_succ_eq_append_getElem (by simpa using hl),List.take_set_of_le (Nat.le_refl _),List.drop_set_of_lt (by omega)]
  simp[Nat.add_comm,Nat.add_left_comm]
section
variable {w0 w:World} {M:Mem} {H:List Ent} {b:Nat} {T:TypeId} {fr:Nat×Nat} {sz:Nat}
theorem Hp.setCells: ∀ (vs:Lv) {cs:Array Value} {w:World} (o:Nat),Hp w0 M (.obj b (.cells cs T fr)::H) w→Hp w0 M (.obj b (.cells (setM cs o vs) T fr)::H) (w.setCells b o vs)
 |[],_,_,_,h=>h
 |v::r,_,_,o,h=>Hp.setCells r (o+1) (h.setCell o v)
end
section
variable {P:Program} {w0 w:World} {M:Mem} {H:List Ent} {sz:Nat}
theorem Hp.appendSrc {t tx ty e:TypeId} {i:TypeInfo} {z x v:Value} {k m:Nat} {xs news:Lv} (hp:Hp w0 M (.row e sz v k xs::H) w) (hs:Src P sz tx x m news w)
 (ht:P.underlying t=some (.slice e)) (hi:P.info? e=some i) (hz:i.zero=some z) (hsz:i.size=sz) (hzs:z.cells.size=sz) (h0:0<sz) (hb: (k+m)*i.bytes≤140737488355328) (h63:k+m≤9223372036854775807):
 ∃v' w',(Builtin.append_ #[t,tx] ty #[v,x]).run P w=.ok v' w'∧Hp w0 M (.row e sz v' (k+m) (xs++news)::H) w':=by
 subst hsz
 have hl:=hs.newsLen
 have grow: ∀ (base:Oa) (cap:Nat) (o:Nat),cap<k+m→xs.length=k*i.size→Hp w0 M H w→(Builtin.firstCells i.size k (.slice base k cap)).run P w.drew=.ok xs.toArray w.drew→
  ∃v' w',(Builtin.append_ #[t,tx] ty #[.slice base k cap,x]).run P w=.ok v' w'∧Hp w0 M (.row e i.size v' (k+m) (xs++news)::H) w':=by
  intro base cap _ hc hxl hpH hold
  have hr:=run_append_grow_src (P:=P) w t tx ty e i z ht hi hz base k cap xs hold x m news hs hc (by omega) (growslice_fits hc hb)
  have hlen: (xs++news).length=(k+m)*i.size:=by rw[List.length_append,hxl,hl,Nat.add_mul]
  refine⟨_,_,hr,?_⟩
  refine(hpH.drew.alloc _).objRow (grownCap_ge w (k+m) cap e) (grownCap_le_maxLen w (k+m) cap e (by unfold maxLen;exact h63)) (blk_eq (grownCap_le_maxLen w (k+m) cap e (by unfold maxLen;exact h63)) ?_) ?_ hlen
  ·have:=grownCap_ge w (k+m) cap e
   rw[Array.size_append,List.size_toArray,size_zeroCells,hzs,hlen,←Nat.add_mul]
   congr 1
   omega
  rw[Array.toList_append,←hlen]
  exact List.take_left
 rcases hp.rowObj with⟨h1,h2,h3,h4⟩|⟨g,cap,cur,h1,h2,h3,h4,h5,h6,h7⟩
 ·subst h1;subst h2;subst h3
  rcases Nat.eq_zero_or_pos m with h|h
  ·subst h
   have hn:news=[]:=List.eq_nil_of_length_eq_zero (by simpa using hl)
   subst hn
   exact⟨_,_,run_append_nothing w t tx ty e i ht hi none 0 0 (Nat.le_refl _) x hs,h4.nilRow _ _⟩
  exact grow none 0 0 (by omega) (by simp) h4 (run_firstCells_none w.drew i.size 0 0 0)
 subst h1
 by_cases hroom:k+m≤cap
 ·have hle: (k+m)*i.size≤cap*i.size:=Nat.mul_le_mul_right _ hroom
  rw[Nat.add_mul] at hle
  have hr:=run_append_room_src (P:=P) w t tx ty e i ht hi g 0 k cap x m news hs hroom
   (λj hj=>by
    rw[Nat.zero_add,h7.ownCell 0 rfl]
    have:k*i.size+j<cur.size:=by omega
    simp[this])
   (λj hj=>by rw[Nat.zero_add];exact h7.ownFrozen 0 rfl _ (by omega))
  rw[Nat.zero_add] at hr
  have h8:=h7.setCells news (k*i.size)
  refine⟨_,_,hr,h8.objRow hroom h3 (by rw[qD];exact h4) ?_ (by rw[List.length_append,h6,hl,Nat.add_mul])⟩
  rw[ox _ _ _ (by omega),h5,List.take_append_of_le_length (by rw[List.length_append,h6,hl,Nat.add_mul];omega),List.take_of_length_le (by rw[List.length_append,h6,hl,Nat.add_mul];omega)]
 have holds: ∀j u,xs[j]? =some u→w.drew.cell? ((⟨g,0,none⟩:Addr).add j)=some u:=λj u hu=>by
  rw[Addr.add_lit,h7.drew.ownCell 0 rfl,Nat.zero_add,←Array.getElem?_toList]
  have hj:j<k*i.size:=h6▸ (List.getElem?_eq_some_iff.1 hu).1
  rw[←h5,List.getElem?_take_of_lt hj] at hu
  exact hu
 exact grow (some ⟨g,0,none⟩) cap 0 (by omega) h6 h7.drop (run_firstCells_some w.drew i.size k ⟨g,0,none⟩ k cap xs h6 holds)
end
section
variable {P:Program} {ops:Array Oper} {n:Nat} {Q:Exit→Act→World→Prop} {L:Fr} {a:Act} {w0 w:World} {M:Mem} {H:List Ent}
def infoIs (P:Program) (e:TypeId) (z:Value) (size bytes:Nat):Bool:=
 match P.info? e with
 |some i=>(match i.zero with|some u=>Nat.beq u.cells.size z.cells.size|none=>false)&&Nat.beq i.size size&&Nat.beq i.bytes bytes&&Nat.beq z.cells.size size&&Nat.blt 0 size
 |none=>false
theorem info_of {P:Program} {e:TypeId} {z:Value} {size bytes:Nat} (h:infoIs P e z size bytes=true): ∃i u,P.info? e=some i∧i.zero=some u∧i.size=size∧i.bytes=bytes∧u.cells.size=size∧0<size:=by
 unfold infoIs at h
 cases hi:P.info? e with
 |none=>simp[hi] at h
 |some i=>
  simp only[hi,Bool.and_eq_true] at h
  obtain⟨⟨⟨⟨h1,h2⟩,h3⟩,h4⟩,h5⟩:=h
  cases hz:i.zero with
  |none=>simp[hz] at h1
  |some u=>
   simp only[hz] at h1
   have e1:=Nat.eq_of_beq_eq_true h1;have e2:=Nat.eq_of_beq_eq_true h2;have e3:=Nat.eq_of_beq_eq_true h3;have e4:=Nat.eq_of_beq_eq_true h4
   exact⟨i,u,rfl,hz,e2,e3,by omega,by simpa [Nat.blt_eq] using h5⟩
theorem X_append {o:Oper} {ρ:Operand→Value} {x y:Operand} {t:TypeId} {v u:Value} {w w':World} {r:Value} (ho:o.op=.call {callee:=.builtin .append,args:=#[x,y],argTypes:=#[t,t]}) (hx:ρ x=v) (hy:ρ y=u)
 (h: (Builtin.append_ #[t,t] o.type #[v,u]).run P w=.ok r w'): (execOp ρ o).run P w=.ok (.value r) w':=by
 unfold execOp
 simp only[ho,resolve,invoke,builtin,Sem.run_bind,Sem.run_pure,Result.andThen_ok,List.map_toArray,List.map_cons,List.map_nil,hx,hy,h]
theorem mr {o:Oper} {rest:List Oper} {d:Nat} {t e:TypeId} {x y:Operand} {z v:Value} {size bytes k m c:Nat} {xs news:Lv} {ad:Addr} (hf:Frm n L a dd) (hp:Hp w0 M (.row e size v k xs::H) w)
 (hw:bi ops L o=some true) (hr:bW L o=true) (hd:o.dst=some d) (hdn:Nat.blt d n=true) (ho:o.op=.call {callee:=.builtin .append,args:=#[x,y],argTypes:=#[t,t]})
 (hx:ev L x=v) (hy:ev L y=.slice (some ad) m c) (ht:P.underlying t=some (.slice e)) (hi:infoIs P e z size bytes=true)
 (hl:news.length=m*size) (hnews: ∀j u,news[j]? =some u→w.cell? (ad.add j)=some u) (h1: ∀u∈news,u.oneCell'=true) (hb: (k+m)*bytes≤140737488355328) (h63:k+m≤9223372036854775807)
 (hk: ∀v' w',Hp w0 M (.row e size v' (k+m) (xs++news)::H) w'→∀a',Frm n ((d,v')::L) a' dd→wpList P ops Q rest a' w'):wpList P ops Q (o::rest) a w:=by
 obtain⟨i,u,hi1,hi2,hi3,hi4,hi5,hi6⟩:=info_of hi
 subst hi3
 have hs:Src P i.size t (.slice (some ad) m c) m news w:=Src.ofSlice (P:=P) (size:=i.size) w ht ad m c news hl hnews h1
 obtain⟨v',w',hrun,hp'⟩:=hp.appendSrc (ty:=o.type) hs ht hi1 hi2 rfl hi5 hi6 (by rw[hi4];exact hb) h63
 exact oz hf hw hr hd hdn (X_append ho hx hy hrun) (hk v' w' hp')
theorem pp {o:Oper} {rest:List Oper} {d:Nat} {t e:TypeId} {x y:Operand} {z v:Value} {size bytes k:Nat} {xs:Lv} (hf:Frm n L a dd) (hp:Hp w0 M (.row e size v k xs::H) w)
 (hw:bi ops L o=some true) (hr:bW L o=true) (hd:o.dst=some d) (hdn:Nat.blt d n=true) (ho:o.op=.call {callee:=.builtin .append,args:=#[x,y],argTypes:=#[t,t]})
 (hx:ev L x=v) (hy:ev L y=.slice none 0 0) (ht:P.underlying t=some (.slice e)) (hi:infoIs P e z size bytes=true)
 (hk: ∀a',Frm n ((d,v)::L) a' dd→wpList P ops Q rest a' w):wpList P ops Q (o::rest) a w:=by
 obtain⟨i,u,hi1,hi2,hi3,hi4,hi5,hi6⟩:=info_of hi
 subst hi3
 have hs:Src P i.size t (.slice none 0 0) 0 [] w:=Src.ofNil w ht 0
 have hrun: (Builtin.append_ #[t,t] o.type #[v,.slice none 0 0]).run P w=.ok v w:=by
  rcases(hp.own _ List.mem_cons_self).2 with⟨e1,e2⟩|⟨g,cap,cur,e1,_,_,hnc,_⟩
  ·subst e1
   exact run_append_nothing w t t o.type e i ht hi1 none 0 0 (Nat.le_refl _) _ hs
  subst e1
  exact run_append_nothing w t t o.type e i ht hi1 (some ⟨g,0,none⟩) k cap hnc _ hs
 exact oz hf hw hr hd hdn (X_append ho hx hy hrun) hk
def KB (M:Mem) (ad:Addr) (l:Bs):Prop:=∀j,j<l.length→M.cell? (ad.add j)=some (.int .u8 (l.getD j 0).toNat)
theorem KB.mono {M M':Mem} {ad:Addr} {l:Bs} (h:KB M ad l) (hM:M.le M'):KB M' ad l:=λj hj=>hM.cell (h j hj)
def KZ (M:Mem) (ad:Addr) (l:Bs):Prop:=∀j,j≤l.length→M.cell? (ad.add j)=some (.int .u8 (l.getD j 0).toNat)
theorem KZ.mono {M M':Mem} {ad:Addr} {l:Bs} (h:KZ M ad l) (hM:M.le M'):KZ M' ad l:=λj hj=>hM.cell (h j hj)
theorem KB.z {M:Mem} {ad:Addr} {l:Bs} (h:KB M ad (l++[0])):KZ M ad l:=λj hj=>by
 rw[h j (by simp;omega)]
 congr 4
 simp only[List.getD,List.getElem?_append]
 split
 ·rfl
 rename_i hn
 have:j=l.length:=by omega
 subst this
 simp
end
end Go.Vc
namespace Go.Vc
open Go Go.RowKit
variable {dd:List Deferred}
theorem Ok.top {P:Program} {f:FuncId} {args:Lv} {W:World} (h:Ok P (Mem.of W) f args λ_ v=>v=.bool true):Calls P f args.toArray W λe w'=>e=.returned (.bool true)∧Below W.heap.size W w':=
 (h (Mem.of W) (Mem.le_refl _) W [] W (Hp.start W)).mono λe w' ⟨v,he,M',_,hp,hv⟩=>⟨by rw[he,hv],hp.below⟩
end Go.Vc
namespace Go.Vc
open Go Go.RowKit
variable {dd:List Deferred}
section
variable {P:Program} {w:World} {ρ:Operand→Value} {o:Oper}
theorem X_string {t t' e:Nat} {x:Operand} {ad:Addr} {cap:Nat} {l:Bs} (ho:o.op=.convert t t' x) (hx:ρ x=.slice (some ad) l.length cap) (ht:P.underlying t=some (.slice e)) (he:P.underlying e=some (.int .u8)) (ht':P.underlying t'=some .string)
 (hc: ∀j u,(eb l)[j]? =some u→w.cell? (ad.add j)=some u): (execOp ρ o).run P w=.ok (.value (S l)) w:=by
 have h:=run_convert_bytes_back (P:=P) w t t' e ad cap l ht he ht' (λj hj=>by
  refine hc j _ ?_
  simp[eb,List.getElem?_eq_getElem hj])
 unfold execOp
 simp only[ho,hx,Sem.run_bind,h]
 rfl
theorem lh {t t' e B:Nat} {x:Operand} {v:Value} {l:Bs} (ho:o.op=.convert t t' x) (hx:ρ x=v) (ht:P.underlying t=some (.slice e)) (he:P.underlying e=some (.int .u8)) (ht':P.underlying t'=some .string)
 (hown:ownsRowG w B e 1 v l.length (eb l)): (execOp ρ o).run P w=.ok (.value (S l)) w:=by
 rcases hown.2 with⟨rfl,h0⟩|⟨g,cap,cur,rfl,hg,hh,hnc,hcm,hcs,htk⟩
 ·have:l=[]:=List.eq_nil_of_length_eq_zero h0
  subst this
  unfold execOp
  simp only[ho,hx,Sem.run_bind,run_convert_bytes_string w t t' e none 0 0 ht he ht']
  rfl
 refine X_string ho hx ht he ht' (λj u hu=>?_)
 have hj:j<l.length*1:=by have:=(List.getElem?_eq_some_iff.1 hu).1;simpa [eb] using this
 rw[Addr.add_lit,cell_of_row w g _ cur e (0,0) hh,←Array.getElem?_toList]
 rw[←htk,List.getElem?_take_of_lt hj] at hu
 simpa using hu
end
theorem row_one {w:World} {B:Nat} {e:TypeId} {size:Nat} {v:Value} {n:Nat} {xs:Lv} (h:ownsRowG w B e size v n xs):v.oneCell'=true:=by
 rcases h.2 with⟨rfl,_⟩|⟨g,cap,cur,rfl,_⟩<;>rfl
theorem all_one {l:Lv} (h: (l.all λu=>u.oneCell')=true): ∀u∈l,u.oneCell'=true:=List.all_eq_true.1 h
theorem sP (l m:Bs):eb (l++m)=eb l++eb m:=by simp[eb]
theorem byte_mk {n:Int} (h0:0≤n) (h1:n<256):n=((UInt8.ofNat n.toNat).toNat:Int):=by
 rw[UInt8.toNat_ofNat'];omega
theorem Hp.rowEq {w0 w:World} {M:Mem} {H:List Ent} {e:TypeId} {size n n':Nat} {v:Value} {xs xs':Lv} (h:Hp w0 M (.row e size v n xs::H) w) (hn:n=n') (hx:xs=xs'):Hp w0 M (.row e size v n' xs'::H) w:=by subst hn;subst hx;exact h
end Go.Vc
namespace Go.Vc
open Go Go.RowKit
variable {dd:List Deferred}
def Arr (M:Mem) (A:Oa) (vs:Lv):Prop:=vs=[]∨∃ad,A=some ad∧∀j v,vs[j]? =some v→M.cell? (ad.add j)=some v
theorem Arr.mono {M M':Mem} {A:Oa} {vs:Lv} (h:Arr M A vs) (hM:M.le M'):Arr M' A vs:=by
 rcases h with h|⟨ad,h1,h2⟩
 ·exact .inl h
 exact .inr ⟨ad,h1,λj v hv=>hM.cell (h2 j v hv)⟩
theorem Arr.at_ {M:Mem} {A:Oa} {vs:Lv} (h:Arr M A vs) {i:Nat} (hi:i<vs.length): ∃ad,A=some ad∧M.cell? (ad.add i)=some (vs.getD i undef):=by
 rcases h with h|⟨ad,h1,h2⟩
 ·subst h;simp at hi
 exact⟨ad,h1,h2 i _ (by simp[List.getD,hi])⟩
def Ints (M:Mem) (k:IntKind) (A:Oa) (xs:List Int):Prop:=Arr M A (xs.map (Value.int k))
theorem Ints.mono {M M':Mem} {k:IntKind} {A:Oa} {xs:List Int} (h:Ints M k A xs) (hM:M.le M'):Ints M' k A xs:=Arr.mono h hM
theorem Ints.at_ {M:Mem} {k:IntKind} {A:Oa} {xs:List Int} (h:Ints M k A xs) {i:Int} (h0:0≤i) (h1:i<xs.length):
 ∃ad,A=some ad∧M.cell? (ad.add (i.toNat*1))=some (.int k (xs.getD i.toNat 0)):=by
 obtain⟨ad,e,hc⟩:=Arr.at_ h (i:=i.toNat) (by simp;omega)
 refine⟨ad,e,?_⟩
 rw[Nat.mul_one,hc]
 have:i.toNat<xs.length:=by omega
 simp[List.getD,this]
theorem Ints.nil (M:Mem) (k:IntKind) (A:Oa):Ints M k A []:=.inl rfl
def IntRow (M:Mem) (k:IntKind) (h:Value) (xs:List Int):Prop:=∃A cap,h=.slice A xs.length cap∧(xs.length≤cap∧(A=none→cap=0))∧Ints M k A xs
theorem IntRow.mono {M M':Mem} {k:IntKind} {h:Value} {xs:List Int} (hr:IntRow M k h xs) (hM:M.le M'):IntRow M' k h xs:=by
 obtain⟨A,cap,h1,h2,h3⟩:=hr;exact⟨A,cap,h1,h2,h3.mono hM⟩
def Rows (M:Mem) (k:IntKind) (A:Oa) (xss:List (List Int)):Prop:=
 ∃hs:Lv,hs.length=xss.length∧Arr M A hs∧∀i,i<xss.length→IntRow M k (hs.getD i undef) (xss.getD i [])
theorem Rows.mono {M M':Mem} {k:IntKind} {A:Oa} {xss:List (List Int)} (h:Rows M k A xss) (hM:M.le M'):Rows M' k A xss:=by
 obtain⟨hs,h1,h2,h3⟩:=h;exact⟨hs,h1,h2.mono hM,λi hi=>(h3 i hi).mono hM⟩
theorem Rows.at_ {M:Mem} {k:IntKind} {A:Oa} {xss:List (List Int)} (h:Rows M k A xss) {i:Int} (h0:0≤i) (h1:i<xss.length):
 ∃ad,A=some ad∧∃B cap,M.cell? (ad.add (i.toNat*1))=some (.slice B (xss.getD i.toNat []).length cap)∧(xss.getD i.toNat []).length≤cap∧Ints M k B (xss.getD i.toNat []):=by
 obtain⟨hs,e1,e2,e3⟩:=h
 obtain⟨ad,e,hc⟩:=e2.at_ (i:=i.toNat) (by omega)
 obtain⟨B,cap,g1,g2,g3⟩:=e3 i.toNat (by omega)
 exact⟨ad,e,B,cap,by rw[Nat.mul_one,hc,g1],g2.1,g3⟩
section
variable {P:Program} {w:World} {ρ:Operand→Value} {o:Oper}
theorem pu {t e sz:Nat} {x ix:Operand} {A:Oa} {ad:Addr} {len cap:Nat} {k:IntKind} {i:Int} (hA:A=some ad) (ho:o.op=.indexAddr t x ix) (hx:ρ x=.slice A len cap) (hi:ρ ix=.int k i) (ht:P.underlying t=some (.slice e))
 (hs:szIs P e sz=true) (h0:0≤i) (h1:i<len): (execOp ρ o).run P w=.ok (.value (.pointer (some (ad.add (i.toNat*sz))))) w:=qK ho (by rw[hx,hA]) hi ht hs h0 h1
end
section
variable {w0 w:World} {M M':Mem} {H:List Ent} {b:Nat} {o:Obj}
def Mem.del (M:Mem) (b:Nat):Mem:=λi=>if i=b then none else M i
theorem Mem.le_del (h:M.le M') (hb:M b=none):M.le (M'.del b):=λi x hx=>by
 unfold Mem.del
 split
 ·rename_i e;subst e;rw[hb] at hx;cases hx
 exact h i x hx
theorem Mem.add_get (M:Mem) (b:Nat) (o:Obj):M.add b o b=some o:=by simp[Mem.add]
theorem Hp.start_le (h:Hp w0 M (.obj b o::H) w):w0.heap.size≤b:=(h.own _ List.mem_cons_self).1
theorem Hp.head_free (h:Hp w0 M (.obj b o::H) w):M b=none:=h.free _ List.mem_cons_self b rfl
theorem Hp.thaw (h:Hp w0 M' H w) (hM:M' b=some o) (hb:w0.heap.size≤b):Hp w0 (M'.del b) (.obj b o::H) w:=by
 refine⟨h.below,λi x hx=>?_,λe he=>?_,List.pairwise_cons.2 ⟨λe he i hi hi'=>?_,h.apart⟩,λe he i hi=>?_⟩
 ·unfold Mem.del at hx
  split at hx
  ·cases hx
  exact h.mem i x hx
 ·rcases List.mem_cons.1 he with rfl|he
  ·exact⟨hb,h.mem b o hM⟩
  exact h.own e he
 ·simp only[Ent.blk,Option.some.injEq] at hi
  subst hi
  have:=h.free e he _ hi'
  rw[hM] at this;cases this
 rcases List.mem_cons.1 he with rfl|he
 ·simp only[Ent.blk,Option.some.injEq] at hi;subst hi;simp[Mem.del]
 unfold Mem.del
 split
 ·rfl
 exact h.free e he i hi
end
section
variable {P:Program} {ops:Array Oper} {n:Nat} {Q:Exit→Act→World→Prop} {L:Fr} {a:Act} {w0 w:World} {M:Mem} {H:List Ent}
theorem W_box {l:List Oper} {cs:Array Value} {T:TypeId} (hf:Frm n L a dd) (hp:Hp w0 M H w) (m:Nat) (ks:List Nat) (L':Nat→Fr)
 (h: ∀w,runK P ops n (l.take m) ks L w=some (L' w.heap.size,w.alloc (.cells cs T (0,0))))
 (hk: ∀b M' w',M.le M'→(∀j v,cs[j]? =some v→M'.cell? ⟨b,j,none⟩=some v)→Hp w0 M' H w'→∀a',Frm n (L' b) a' dd→wpList P ops Q (l.drop m) a' w'):wpList P ops Q l a w:=
 W_alloc hf hp m ks _ L' h λb w' hp'=>hk b _ w' hp'.freeze.1 (λj v hv=>by rw[lu,hv]) hp'.freeze.2
end
end Go.Vc
namespace Go.Vc
open Go Go.RowKit
variable {dd:List Deferred}
section
variable {P:Program} {ops:Array Oper} {n:Nat} {C:World→Prop} {K:Act→Prop} {L:Fr} {a:Act} {w0 w:World} {M:Mem} {H:List Ent}
theorem Q_eq {o:Oper} {rest:List Oper} {v:Value} {d:Nat} (hf:Frm n L a dd) (hw:bi ops L o=some true) (hr:bW L o=true) (hd:o.dst=some d) (hdn:Nat.blt d n=true)
 (hx: ∀w,C w→(execOp (ev L) o).run P w=.ok (.value v) w) (hk: ∀a',Frm n ((d,v)::L) a' dd→wpQuiet P ops C K rest a'):wpQuiet P ops C K (o::rest) a:=by
 simp only[wpQuiet]
 rw[hf.wanted hw,if_pos rfl]
 refine⟨v,λw hC=>?_,?_⟩
 ·unfold Oper.quietAt
  rw[hf.exec hr,hx w hC]
  exact⟨rfl,rfl⟩
 rw[hd];exact hk _ (hf.put (by simpa [Nat.blt_eq] using hdn) v)
theorem Q_not {o:Oper} {rest:List Oper} {d:Nat} (hf:Frm n L a dd) (hw:bi ops L o=some false) (hd:o.dst=some d) (hdn:Nat.blt d n=true)
 (hk: ∀a',Frm n ((d,undef)::L) a' dd→wpQuiet P ops C K rest a'):wpQuiet P ops C K (o::rest) a:=by
 simp only[wpQuiet]
 rw[hf.wanted hw,if_neg (by simp)]
 rw[hd];exact hk _ (hf.put (by simpa [Nat.blt_eq] using hdn) undef)
theorem Q_okv {o:Oper} {rest:List Oper} {d:Nat} {f:FuncId} {args:Lv} {v:Value} (hf:Frm n L a dd) (hw:bi ops L o=some true) (hr:bW L o=true)
 (hd:o.dst=some d) (hdn:Nat.blt d n=true) (hx: ∀w,(execOp (ev L) o).run P w=.ok (.enter f args.toArray) w) (hc:Ok P M f args λ_ u=>u=v)
 (hk: ∀a',Frm n ((d,v)::L) a' dd→wpQuiet P ops (λw=>Hp w0 M H w) K rest a'):wpQuiet P ops (λw=>Hp w0 M H w) K (o::rest) a:=by
 simp only[wpQuiet]
 rw[hf.wanted hw,if_pos rfl]
 refine⟨v,λw hC=>?_,?_⟩
 ·unfold Oper.quietAt
  rw[hf.exec hr,hx w]
  refine⟨rfl,(hc M (Mem.le_refl M) w0 H w hC).mono λe w' ⟨u,he,M',hM,hp,hv⟩=>?_⟩
  exact⟨by rw[he,hv],hp.less hM⟩
 rw[hd];exact hk _ (hf.put (by simpa [Nat.blt_eq] using hdn) v)
theorem iS {l:List Oper} (hl:l=[]) (h:K a):wpQuiet P ops C K l a:=by subst hl;exact h
theorem iG {id:Nat} {Q:Exit→Act→World→Prop} (hp:Hp w0 M H w) (hm:P.follows .mixedOrders=true) (hB:Region.lexB .any ops=true)
 (h:wpQuiet P ops (λw=>Hp w0 M H w) (λa=>∀w,Hp w0 M H w→Q .normal a w) ops.toList a): (Code.region id ops true).wp P Q a w:=
 wp_region_quiet (C:=λw=>Hp w0 M H w) hm hB hp.drew h
end
end Go.Vc
namespace Go.Vc
open Go Go.RowKit
variable {dd:List Deferred}
structure KeyLaw (P:Program) (t:TypeId) {κ:Type} [DecidableEq κ] (enc:κ→Value):Prop where
 desc: ∃d,P.underlying t=some d∧(∀a b,Instr.sameNow d (enc a) (enc b)=some (decide (a=b)))∧(∀w n e k,(Instr.checkKey e (n+1) t (enc k)).run P w=.ok () w)
 same: ∀a,Instr.sameBits 10000 (enc a) (enc a)=true
theorem sO (s t:ByteArray): (s==t)=(s.data==t.data):=rfl
theorem mkS_beq (a b:Bs): (mkS a==mkS b)=decide (a=b):=by
 rw[sO,Bool.eq_iff_iff];simp
theorem strKey {P:Program} {t:TypeId} (h:P.underlying t=some .string):KeyLaw P t S:=by
 refine⟨⟨_,h,λa b=>?_,λw n e x=>?_⟩,λa=>by simp only[Instr.sameBits];rw[mkS_beq];simp⟩
 ·simp only[Instr.sameNow,Option.some.injEq];exact mkS_beq a b
 unfold Instr.checkKey
 rw[Sem.run_bind,run_underlying h]
 rfl
section
variable {κ:Type} [DecidableEq κ] {enc:κ→Value}
def mEnt (enc:κ→Value) (p: (κ×Value)×Nat):MapEntry:={key:=enc p.1.1,val:=p.1.2,born:=p.2}
def mObj (enc:κ→Value) (m:List (κ×Value)):Obj:=.map (m.zipIdx.map (mEnt enc)).toArray m.length
def lkAt (k:κ):List (κ×Value)→Nat→Option (Nat×Value)
 |[],_=>none
 |p::r,i=>if p.1=k then some (i,p.2) else lkAt k r (i+1)
theorem pb {d:TypeDesc} (h: ∀a b,Instr.sameNow d (enc a) (enc b)=some (decide (a=b))) (k:κ): ∀ (m:List (κ×Value)) (n j:Nat),
 Instr.findNow d (enc k) ((m.zipIdx n).map (mEnt enc)) j=some (lkAt k m j)
 |[],n,j=>rfl
 |p::r,n,j=>by
  simp only[List.zipIdx_cons,List.map_cons,Instr.findNow,mEnt,h,lkAt]
  by_cases e:p.1=k
  ·simp[e]
  have e': ¬k=p.1:=λx=>e x.symm
  simp only[e',decide_false,e,if_false]
  exact pb h k r (n+1) (j+1)
theorem tF {k:κ}: ∀ {m:List (κ×Value)} {j i:Nat} {v:Value},lkAt k m j=some (i,v)→j≤i∧m[i-j]? =some (k,v)
 |[],j,i,v,h=>by simp[lkAt] at h
 |p::r,j,i,v,h=>by
  simp only[lkAt] at h
  split at h
  ·rename_i e
   simp only[Option.some.injEq,Prod.mk.injEq] at h
   obtain⟨rfl,rfl⟩:=h
   exact⟨Nat.le_refl _,by simp[←e]⟩
  obtain⟨h1,h2⟩:=tF h
  refine⟨by omega,?_⟩
  rw[show i-j=(i- (j+1))+1 by omega]
  simpa using h2
theorem lkAt_none {k:κ}: ∀ {m:List (κ×Value)} {j:Nat},lkAt k m j=none↔k∉m.map (·.1)
 |[],j=>by simp[lkAt]
 |p::r,j=>by
  simp only[lkAt,List.map_cons,List.mem_cons]
  by_cases e:p.1=k
  ·simp[e]
  have e': ¬k=p.1:=λx=>e x.symm
  simp only[e,e',if_false,false_or]
  exact lkAt_none
def updM (m:List (κ×Value)) (k:κ) (v:Value):List (κ×Value):=
 match lkAt k m 0 with
 |some (i,_)=>m.set i (k,v)
 |none=>m++[(k,v)]
variable {P:Program} {w:World} {ρ:Operand→Value} {o:Oper}
theorem sy {b:Nat} {x:Obj} (h:w.heap[b]? =some x) (hn: ∀c t f,x≠ .cells c t f): (getObj b).run P w=.ok x w:=by
 simp only[getObj,Sem.run,h]
theorem mObj_ne {κ:Type} {enc:κ→Value} (m:List (κ×Value)): ∀c t f,mObj enc m≠ .cells c t f:=λ_ _ _ h=>by simp[mObj] at h
theorem X_lookup {t kt et:TypeId} {x ix:Operand} {ok:Bool} {b:Nat} {m:List (κ×Value)} {k:κ} {z:Value} (ho:o.op=.lookup t x ix ok) (hx:ρ x=.map (some b)) (hk:ρ ix=enc k) (ht:P.underlying t=some (.map kt et)) (K:KeyLaw P kt enc)
 (hz: (P.info? et).bind (·.zero)=some z) (hb:w.heap[b]? =some (mObj enc m)):
 (execOp ρ o).run P w=.ok (.value (if ok then .tuple #[((lkAt k m 0).map (·.2)).getD z,.bool (lkAt k m 0).isSome] else((lkAt k m 0).map (·.2)).getD z)) w:=by
 obtain⟨d,h1,h2,h3⟩:=K.desc
 have hzero: (zeroValue et).run P w=.ok z w:=by
  cases hi:P.info? et with
  |none=>simp[hi] at hz
  |some i=>simp only[hi,Option.bind_some] at hz;simp[zeroValue,typeInfo,hi,hz]
 have hg: (getObj b).run P w=.ok (mObj enc m) w:=sy hb (mObj_ne m)
 unfold execOp
 simp only[ho,hx,hk,Instr.lookup,Sem.run_bind,run_underlying ht,Result.andThen_ok,hg]
 simp only[mObj,Sem.run_bind,Sem.run_pure,Result.andThen_ok,h3 w 9999,Instr.findKey,run_underlying h1,pb h2 k m 0 0]
 cases lkAt k m 0 with
 |none=>simp[hzero]
 |some p=>simp
theorem setObj_run {b:Nat} {x y:Obj} (h:w.heap[b]? =some x) (hn: ∀c t f,x≠ .cells c t f): (setObj b y).run P w=.ok () {w with heap:=w.heap.setIfInBounds b y}:=by
 simp only[setObj,Sem.run,h]
theorem set_ent {κ:Type} {enc:κ→Value} (m:List (κ×Value)) (i:Nat) (k:κ) (v u:Value) (h:m[i]? =some (k,u)):
 (m.zipIdx.map (mEnt enc)).toArray.modify i (λe=>{e with key:=enc k,val:=v})=((m.set i (k,v)).zipIdx.map (mEnt enc)).toArray:=by
 apply Array.ext'
 apply List.ext_getElem?
 intro j
 rw[Array.getElem?_toList,Array.getElem?_modify]
 simp only[List.getElem?_toArray,List.getElem?_map,List.getElem?_zipIdx,List.getElem?_set,Option.map_map]
 by_cases e:i=j
 ·subst e
  have hlt:i<m.length:=(List.getElem?_eq_some_iff.1 h).1
  simp[hlt,mEnt]
 simp[e]
theorem X_mapUpdate {t kt et:TypeId} {x ix y:Operand} {b:Nat} {m:List (κ×Value)} {k:κ} {v:Value} (ho:o.op=.mapUpdate t x ix y∨o.op=.insert t x ix y) (hx:ρ x=.map (some b)) (hk:ρ ix=enc k) (hv:ρ y=v) (ht:P.underlying t=some (.map kt et)) (K:KeyLaw P kt enc)
 (hb:w.heap[b]? =some (mObj enc m)): (execOp ρ o).run P w=.ok .skip {w with heap:=w.heap.setIfInBounds b (mObj enc (updM m k v))}:=by
 obtain⟨d,h1,h2,h3⟩:=K.desc
 have hg: (getObj b).run P w=.ok (mObj enc m) w:=sy hb (mObj_ne m)
 have hs: ∀y:Obj,(setObj b y).run P w=.ok () {w with heap:=w.heap.setIfInBounds b y}:=λy=>setObj_run hb (mObj_ne m)
 have main: (Instr.mapUpdate t (.map (some b)) (enc k) v).run P w=.ok () {w with heap:=w.heap.setIfInBounds b (mObj enc (updM m k v))}:=by
  simp only[Instr.mapUpdate,Sem.run_bind,run_underlying ht,Result.andThen_ok,hg]
  simp only[mObj,Sem.run_bind,Result.andThen_ok,h3 w 9999,Instr.findKey,run_underlying h1,pb h2 k m 0 0,Sem.run_pure]
  cases hl:lkAt k m 0 with
  |none=>
   simp only[hs,updM,hl]
   congr 4
   ·apply Array.ext';simp[List.zipIdx_append,mEnt]
   simp
  |some p=>
   obtain⟨i,u⟩:=p
   have hm:=(tF hl).2
   simp only[Nat.sub_zero] at hm
   have hkey: ((m.zipIdx.map (mEnt enc)).toArray[i]?.map (·.key)).getD (enc k)=enc k:=by
    simp[List.getElem?_zipIdx,hm,mEnt]
   simp only[hkey,Instr.keyThatStays,K.same,if_true,Sem.run_bind,Sem.run_pure,Result.andThen_ok,hs,updM,hl]
   rw[set_ent m i k v u hm]
   simp
 unfold execOp
 rcases ho with ho|ho<;>simp only[ho,hx,hk,hv,Sem.run_bind,main]<;>rfl
end
end Go.Vc
namespace Go.Vc
open Go Go.RowKit
variable {dd:List Deferred}
section
variable {κ:Type} {enc:κ→Value} {P:Program} {w:World} {ρ:Operand→Value} {o:Oper}
def todo (m:List (κ×Value)) (seen:Array Nat):List ((κ×Value)×Nat):=m.zipIdx.filter λp=> !seen.contains p.2
end
section
variable {κ:Type} {enc:κ→Value} {P:Program} {ops:Array Oper} {n:Nat} {Q:Exit→Act→World→Prop} {L:Fr} {a:Act} {w0 w:World} {M:Mem} {H:List Ent}
theorem Hp.ownObj {b:Nat} {x:Obj} (h:Hp w0 M H w) (i:Nat) (he:H[i]? =some (.obj b x)):w.heap[b]? =some x:=(h.own _ (List.mem_of_getElem? he)).2
theorem Hp.put {b:Nat} {x y:Obj} (h:Hp w0 M (.obj b x::H) w):Hp w0 M (.obj b y::H) {w with heap:=w.heap.setIfInBounds b y}:=by
 have hb:=(h.own _ List.mem_cons_self).2
 have hlt:=kA hb
 refine h.write rfl rfl rfl (by simp) (by simp[hlt]) (λk hk=>?_)
 simp only[Array.getElem?_setIfInBounds]
 rw[if_neg (λe=>hk e.symm)]
theorem Hp.sameHeap {w1:World} (h:Hp w0 M H w) (e1:w1.heap=w.heap) (e2:w1.os=w.os) (e3:w1.tape=w.tape) (e4:w1.output=w.output):Hp w0 M H w1:=
 ⟨⟨e2.trans h.below.os,e3.trans h.below.tape,e4.trans h.below.output,by rw[e1];exact h.below.size,λk hk=>by rw[e1];exact h.below.block k hk⟩,
  λb o hb=>by rw[e1];exact h.mem b o hb,λe he=>Ent.owns_keep (h.own e he) λ_ _=>by rw[e1],h.apart,h.free⟩
theorem W_mapUpdate [DecidableEq κ] {o:Oper} {rest:List Oper} {t kt et:TypeId} {x ix y:Operand} {b:Nat} {m:List (κ×Value)} {k:κ} {v:Value} (hf:Frm n L a dd) (hp:Hp w0 M (.obj b (mObj enc m)::H) w) (hw:bi ops L o=some true) (hr:bW L o=true) (hd:o.dst=none)
 (ho:o.op=.mapUpdate t x ix y∨o.op=.insert t x ix y) (hx:ev L x=.map (some b)) (hk:ev L ix=enc k) (hv:ev L y=v) (ht:P.underlying t=some (.map kt et)) (K:KeyLaw P kt enc)
 (hq: ∀w',Hp w0 M (.obj b (mObj enc (updM m k v))::H) w'→∀a',Frm n L a' dd→wpList P ops Q rest a' w'):wpList P ops Q (o::rest) a w:=
 W_skip hf hw hr hd (X_mapUpdate ho hx hk hv ht K (hp.ownObj 0 rfl)) (hq _ hp.put)
end
end Go.Vc
namespace Go.Vc
open Go Go.RowKit Go.Sort
variable {dd:List Deferred}
section
variable {w0 w:World} {M:Mem} {H:List Ent} {b:Nat}
theorem Hp.grow_ (h:Hp w0 M H w) (os:Array Obj):Hp w0 M H (grow w os):=by
 have hk: ∀k,k<w.heap.size→(grow w os).heap[k]? =w.heap[k]? :=λk hk=>by simp[grow,Array.getElem?_append,hk]
 refine⟨⟨h.below.os,h.below.tape,h.below.output,?_,λk hk'=>?_⟩,λk o ho=>?_,λe he=>Ent.owns_keep (h.own e he) λk hb=>hk k (Ent.blk_lt (h.own e he) hb).2,h.apart,h.free⟩
 ·have:=h.below.size
  simp[grow];omega
 ·rw[hk k (by have:=h.below.size;omega)];exact h.below.block k hk'
 have:=h.mem k o ho
 rw[hk k (kA this)];exact this
theorem Hp.mapCells {cur:Array Value} {e:TypeId} {fr:Nat×Nat} (h:Hp w0 M (.obj b (.cells cur e fr)::H) w) (f:Array Value→Array Value):Hp w0 M (.obj b (.cells (f cur) e fr)::H) (mapBlock w b f):=by
 have hb:=(h.own _ List.mem_cons_self).2
 refine h.write rfl rfl rfl (by simp[mapBlock]) (by simp[mapBlock,Array.getElem?_modify,hb,onCells]) (λk hk=>?_)
 simp only[mapBlock,Array.getElem?_modify]
 rw[if_neg (λe=>hk e.symm)]
end
theorem Ok.ofPure {P:Program} {M:Mem} {f:FuncId} {args:Lv} {v:Value} (h: ∀w,Calls P f args.toArray w λe w'=>e=.returned v∧w'=w):Ok P M f args λ_ u=>u=v:=
 λM2 _ _ _ w hp=>(h w).mono λ_ _ ⟨he,hw⟩=>⟨v,he,M2,Mem.le_refl _,hw▸hp,rfl⟩
theorem sortRow {α:Type} [Inhabited α] {P:Program} {f:FuncId} {e:TypeId} {enc:α→Value} {zs ys:List α} (hl:ys.length=zs.length)
 (hS: ∀blk off cap w,Holds enc w blk off zs.toArray→blk<w.heap.size→Calls P f #[.slice (some ⟨blk,off,none⟩) zs.length cap] w λe w'=>e=.returned (.tuple #[])∧∃n os,w'=grow (putRow enc (Sort.ahead w n) blk off ys.toArray) os)
 (hN:zs=[]→∀M,Ok P M f [.slice none 0 0] λ_ u=>u=.tuple #[]) (M:Mem) (v:Value):
 OkH P M [.row e 1 v zs.length (zs.map enc)] f [v] λ_ E' u=>u=.tuple #[]∧E'=[.row e 1 v zs.length (ys.map enc)]:=by
 intro M2 hM w0 H w hp
 rcases hp.rowObj with⟨h1,h2,h3,h4⟩|⟨g,cap,cur,h1,h2,h3,h4,h5,h6,h7⟩
 ·have hz:zs=[]:=List.eq_nil_of_length_eq_zero h2
  have hy:ys=[]:=List.eq_nil_of_length_eq_zero (by rw[hl,h2])
  subst h1
  refine(hN hz M2 M2 (Mem.le_refl _) w0 H w h4).mono λ_ _ ⟨u,he,M',hM',hp',hu⟩=>⟨u,he,M',_,hM',?_,hu,rfl⟩
  subst hz;subst hy
  exact hp'.nilRow _ _
 subst h1
 have hcell: ∀j,j<zs.length→cur[j]? =(zs.map enc)[j]? :=λj hj=>by
  rw[←h5,List.getElem?_take_of_lt (by omega),Array.getElem?_toList]
 have hH:Holds enc w g 0 zs.toArray:=λj hj=>by
  have hj':j<zs.length:=by simpa using hj
  refine⟨?_,?_⟩
  ·rw[Nat.zero_add,h7.ownCell 0 rfl,hcell j hj']
   simp[hj']
  rw[Nat.zero_add]
  exact h7.ownFrozen 0 rfl j (by omega)
 have hg:g<w.heap.size:=kA (h7.own _ List.mem_cons_self).2
 refine(hS g 0 cap w hH hg).mono λ_ w' ⟨he,n,os,hw⟩=>⟨_,he,M2,_,Mem.le_refl _,?_,rfl,rfl⟩
 subst hw
 have h8:Hp w0 M2 (.obj g (.cells cur e (0,0))::H) (Sort.ahead w n):=h7.sameHeap rfl rfl rfl rfl
 have h9:=(h8.mapCells (putCells enc 0 ys.toArray)).grow_ os
 have hcs:cap≤cur.size:=by have:=h4.1;omega
 have hlen:zs.length≤cap:=h2
 refine h9.objRow h2 h3 (by simpa [putCells] using h4) ?_ (by simp[hl])
 apply List.ext_getElem?
 intro j
 by_cases hj:j<zs.length
 ·rw[List.getElem?_take_of_lt (by omega),Array.getElem?_toList]
  have hjc:j<cur.size:=by omega
  have hjy:j<ys.length:=by omega
  simp[putCells,hjc,hjy]
 rw[List.getElem?_eq_none (by simp;omega),List.getElem?_eq_none (by simp;omega)]
end Go.Vc
namespace Go.Vc
open Go Go.RowKit
variable {dd:List Deferred}
section
variable {κ:Type}
def CollI (m:List (κ×Value)) (seen:Array Nat) (xs:List κ):Prop:=((todo m seen).map (·.1.1)++xs).Perm (m.map (·.1))
theorem CollI.all {m:List (κ×Value)} {seen:Array Nat} {xs:List κ} (h:CollI m seen xs) (h0:todo m seen=[]):xs.Perm (m.map (·.1)):=by
 unfold CollI at h;rw[h0] at h;simpa using h
end
end Go.Vc
namespace Go.Vc
open Go Go.RowKit
variable {dd:List Deferred}
section
variable {P:Program} {ops:Array Oper} {n:Nat} {Q:Exit→Act→World→Prop} {L:Fr} {a:Act} {w0 w:World} {M:Mem} {H:List Ent}
end
section
variable {κ:Type} {enc:κ→Value} {w0 w:World} {M:Mem} {H:List Ent}
end
section
variable {κ:Type} {enc:κ→Value} {P:Program} {ops:Array Oper} {n:Nat} {Q:Exit→Act→World→Prop} {L:Fr} {a:Act} {w0 w:World} {M:Mem} {H:List Ent}
theorem W_makeMap {o:Oper} {rest:List Oper} {d:Nat} {t:TypeId} (enc:κ→Value) (hf:Frm n L a dd) (hp:Hp w0 M H w) (hw:bi ops L o=some true) (hr:bW L o=true)
 (hd:o.dst=some d) (hdn:Nat.blt d n=true) (ho:o.op=.makeMap t none)
 (hk: ∀b w',Hp w0 M (.obj b (mObj enc [])::H) w'→∀a',Frm n ((d,.map (some b))::L) a' dd→wpList P ops Q rest a' w'):wpList P ops Q (o::rest) a w:=by
 have hx: (execOp (ev L) o).run P w=.ok (.value (.map (some w.heap.size))) (w.alloc (mObj enc [])):=by
  unfold execOp
  simp only[ho]
  rfl
 exact oz hf hw hr hd hdn hx (hk _ _ (hp.alloc _))
end
end Go.Vc
namespace Go.Vc
open Go Go.RowKit
variable {dd:List Deferred}
section
variable {P:Program} {w0 w:World} {M:Mem} {H:List Ent}
theorem eqSliceNil {T e:TypeId} (ht:P.underlying T=some (.slice e)) (A:Oa) (n c d:Nat) (w:World): (Op.equalIn (d+1) T (.slice A n c) (.slice none 0 0)).run P w=.ok A.isNone w:=by
 rcases A with _|b
 ·unfold Op.equalIn
  rw[Sem.run_bind,run_underlying ht];rfl
 unfold Op.equalIn
 rw[Sem.run_bind,run_underlying ht];rfl
theorem X_slicenil {ρ:Operand→Value} {o:Oper} {T t' e n c:TypeId} {x y:Operand} {A:Oa} (ho:o.op=.binOp .eql T x y t') (hx:ρ x=.slice A n c) (hy:ρ y=.slice none 0 0) (ht:P.underlying T=some (.slice e)) (w:World):
 (execOp ρ o).run P w=.ok (.value (.bool A.isNone)) w:=by
 have h3:=eqSliceNil (P:=P) ht A n c 9999 w
 have h:binOp .eql T (.slice A n c) (.slice none 0 0)=(do pure (.bool (←Op.equal T (.slice A n c) (.slice none 0 0)))):=rfl
 have h2:eqGuard .eql T x y (.slice A n c) (.slice none 0 0)=pure ():=rfl
 unfold execOp
 simp only[ho,hx,hy,h,h2,Sem.run_bind,Sem.run_pure,Result.andThen_ok]
 have h4: (Op.equal T (.slice A n c) (.slice none 0 0)).run P w=.ok A.isNone w:=h3
 rw[h4];rfl
end
end Go.Vc
namespace Go.Vc
open Go Go.RowKit
variable {dd:List Deferred}
def aL (p:Prop) [Decidable p] {α:Type} (x:Option α):Option α:=if p then x else none
theorem ov {p:Prop} [Decidable p] {α:Type} {x:Option α} {r:α} (h:aL p x=some r):p∧x=some r:=by
 unfold aL at h
 split at h
 ·exact⟨‹_›,h⟩
 cases h
theorem aP {p:Prop} [Decidable p] {α:Type} {x:Option α} (h:p):aL p x=x:=by unfold aL;rw[if_pos h]
theorem cnd_t {α:Type} {b:Bool} {x y r:α} (hb:b=true) (h: (bif b then x else y)=r):x=r:=by rw[hb] at h;exact h
theorem cnd_f {α:Type} {b:Bool} {x y r:α} (hb:b=false) (h: (bif b then x else y)=r):y=r:=by rw[hb] at h;exact h
theorem bind_some' {α β:Type} {x:Option α} {f:α→Option β} {r:β} (h:x.bind f=some r): ∃a,x=some a∧f a=some r:=Option.bind_eq_some_iff.1 h
inductive Lp (σ β:Type)
 |nx (s:σ)
 |br (b:β)
def au {σ β:Type} (step:σ→Option (Lp σ β)):Nat→σ→Option β
 |0,_=>none
 |n+1,s=>(step s).bind λr=>match r with
  |.nx s'=>au step n s'
  |.br b=>some b
theorem aK {σ β:Type} {step:σ→Option (Lp σ β)} {n:Nat} {s:σ} {b:β} (h:au step n s=some b): ∃m r,n=m+1∧step s=some r∧(match r with|.nx s'=>au step m s'|.br b=>some b)=some b:=by
 cases n with
 |zero=>cases h
 |succ m=>
  obtain⟨r,h1,h2⟩:=Option.bind_eq_some_iff.1 h
  exact⟨m,r,rfl,h1,h2⟩
def joinF {τ Λ:Type} (j:Lp τ Λ) (k:τ→Option Λ):Option Λ:=match j with|.nx x=>k x|.br l=>some l
def aB {α:Type} (xs:List α) (i:Int):Option α:=if 0≤i then xs[i.toNat]? else none
theorem mv {α:Type} {xs:List α} {i:Int} {x:α} (h:aB xs i=some x):0≤i∧i<xs.length∧xs[i.toNat]? =some x:=by
 unfold aB at h
 split at h
 ·have:=(List.getElem?_eq_some_iff.1 h).1
  exact⟨‹_›,by omega,h⟩
 cases h
theorem eV {α:Type} {xs:List α} {i:Int} {x:α} (h:aB xs i=some x):i<xs.length:=(mv h).2.1
theorem eW {α:Type} {xs:List α} {i:Int} {x:α} (h:aB xs i=some x):0≤i:=(mv h).1
def inR (k:IntKind) (x:Int):Prop:=k.min≤x∧x≤k.max
instance (k:IntKind) (x:Int):Decidable (inR k x):=by unfold inR;exact inferInstance
theorem inR_mk {x:Int}:inR .i64 x↔ -9223372036854775808≤x∧x≤9223372036854775807:=by simp[inR,IntKind.min,IntKind.max,IntKind.signed,IntKind.bits]
section
variable {α:Type} {M M':Mem} {sz:Nat} {f:α→Dat} {A:Oa} {cap:Nat} {xs:List α}
def eL (sz:Nat) (f:α→Dat) (xs:List α):Dat:=.list sz (xs.map f)
def Sli (M:Mem) (sz:Nat) (f:α→Dat) (A:Oa) (cap:Nat) (xs:List α):Prop:=
 xs.length≤cap∧(A=none→cap=0)∧(xs=[]∨∃ad,A=some ad∧RepArr M sz (xs.map f) ad)
theorem Sli.mono (h:Sli M sz f A cap xs) (hM:M.le M'):Sli M' sz f A cap xs:=by
 obtain⟨h1,h2,h3⟩:=h
 refine⟨h1,h2,?_⟩
 rcases h3 with h3|⟨ad,h4,h5⟩
 ·exact .inl h3
 exact .inr ⟨ad,h4,RepArr.mono hM _ _ _ h5⟩
theorem Sli.nil:Sli M sz f none 0 []:=⟨Nat.le_refl _,λ_=>rfl,.inl rfl⟩
theorem Sli.rep (h:Sli M sz f A cap xs):Rep M (eL sz f xs) [.slice A xs.length cap]:=by
 obtain⟨h1,h2,h3⟩:=h
 refine⟨A,cap,by simp,by simpa using h1,h2,?_⟩
 rcases h3 with h3|⟨ad,h4,h5⟩
 ·exact .inl (by simp[h3])
 exact .inr ⟨ad,h4,h5⟩
theorem Rep.sli {cs:Lv} (h:Rep M (eL sz f xs) cs): ∃A cap,cs=[.slice A xs.length cap]∧Sli M sz f A cap xs:=by
 obtain⟨A,cap,h1,h2,h3,h4⟩:=h
 refine⟨A,cap,by simpa using h1,by simpa using h2,h3,?_⟩
 rcases h4 with h4|⟨ad,h5,h6⟩
 ·exact .inl (by simpa using h4)
 exact .inr ⟨ad,h5,h6⟩
theorem Sli.at_ (h:Sli M sz f A cap xs) {i:Int} {x:α} (hx:aB xs i=some x):
 ∃ad c,A=some ad∧c.length=sz∧Rep M (f x) c∧∀j v,c[j]? =some v→M.cell? ((ad.add (i.toNat*sz)).add j)=some v:=by
 obtain⟨_,_,h3⟩:=h
 obtain⟨h0,h1,h2⟩:=mv hx
 rcases h3 with h3|⟨ad,h4,h5⟩
 ·subst h3;simp at h2
 obtain⟨c,k1,k2,k3⟩:=RepArr.get i.toNat (f x) h5 (by simp[h2])
 exact⟨ad,c,h4,k1,k2,k3⟩
theorem RepArr.drop: ∀ (k:Nat) {ds:List Dat} {ad:Addr},RepArr M sz ds ad→RepArr M sz (ds.drop k) (ad.add (k*sz))
 |0,ds,ad,h=>by simpa [Addr.add] using h
 |k+1,[],ad,h=>by simp[RepArr]
 |k+1,d::ds,ad,h=>by
  have:=RepArr.drop (ds:=ds) k h.2
  rw[hT] at this
  rw[List.drop_succ_cons,show(k+1)*sz=sz+k*sz by rw[Nat.add_mul];omega]
  exact this
end
def Szd (n:Nat) (d:Dat):Prop:=∀M cs,Rep M d cs→cs.length=n
theorem nh (k:IntKind) (n:Int):Szd 1 (.int k n):=λ_ _ h=>by rw[show _=_ from h];rfl
theorem qg (b:Bool):Szd 1 (.bool b):=λ_ _ h=>by rw[show _=_ from h];rfl
theorem bH (l:Bs):Szd 1 (.str l):=λ_ _ h=>by rw[show _=_ from h];rfl
theorem io (sz:Nat) (ds:List Dat):Szd 1 (.list sz ds):=λ_ _ h=>by obtain⟨A,cap,h1,_⟩:=h;rw[h1];rfl
theorem ln:Szd 0 (.struct []):=λ_ _ h=>by rw[show _=[] from h];rfl
theorem bq {a b:Nat} {d:Dat} {ds:List Dat} (h1:Szd a d) (h2:Szd b (.struct ds)):Szd (a+b) (.struct (d::ds)):=λM cs h=>by
 obtain⟨c1,c2,e,k1,k2⟩:=h
 rw[e,List.length_append,h1 M c1 k1,h2 M c2 k2]
section
variable {M M':Mem} {sz:Nat}
theorem ae.append {M:Mem}: ∀ {ds es:List Dat} {c c':Lv},ae M ds c→ae M es c'→ae M (ds++es) (c++c')
 |[],es,c,c',h,h'=>by rw[show c=[] from h];exact h'
 |d::ds,es,c,c',h,h'=>by
  obtain⟨c1,c2,e,k1,k2⟩:=h
  exact⟨c1,c2++c',by rw[e,List.append_assoc],k1,ae.append k2 h'⟩
theorem ae.one {d:Dat} {c:Lv} (h:Rep M d c):ae M [d] c:=⟨c,[],by simp,h,rfl⟩
theorem ae.more {α:Type} {f:α→Dat} {xs ys:List α} {c c':Lv} (h:ae M (xs.map f) c) (h':ae M (ys.map f) c'):ae M ((xs++ys).map f) (c++c'):=by
 rw[List.map_append];exact h.append h'
theorem ae.len: ∀ {ds:List Dat} {c:Lv},(∀d∈ds,Szd sz d)→ae M ds c→c.length=ds.length*sz
 |[],c,_,h=>by rw[show c=[] from h];simp
 |d::ds,c,hs,h=>by
  obtain⟨c1,c2,e,k1,k2⟩:=h
  rw[e,List.length_append,hs d List.mem_cons_self M c1 k1,ae.len (λd hd=>hs d (List.mem_cons_of_mem _ hd)) k2,List.length_cons,Nat.add_mul];omega
theorem ae.arr: ∀ {ds:List Dat} {c:Lv} {ad:Addr},(∀d∈ds,Szd sz d)→ae M ds c→(∀j u,c[j]? =some u→M.cell? (ad.add j)=some u)→RepArr M sz ds ad
 |[],_,_,_,_,_=>trivial
 |d::ds,c,ad,hs,h,hc=>by
  obtain⟨c1,c2,e,k1,k2⟩:=h
  have hl:=hs d List.mem_cons_self M c1 k1
  refine⟨⟨c1,hl,k1,λj v hv=>hc j v ?_⟩,ae.arr (λd hd=>hs d (List.mem_cons_of_mem _ hd)) k2 λj v hv=>?_⟩
  ·rw[e,List.getElem?_append_left (List.getElem?_eq_some_iff.1 hv).1];exact hv
  rw[hT]
  refine hc _ v ?_
  rw[e,List.getElem?_append_right (by omega),show sz+j-c1.length=j by omega];exact hv
theorem ae.get {M:Mem}: ∀ {ds:List Dat} {c:Lv} (i:Nat) {d:Dat},(∀d∈ds,Szd sz d)→ae M ds c→ds[i]? =some d→∃e,e.length=sz∧Rep M d e∧∀j v,e[j]? =some v→c[i*sz+j]? =some v
 |[],_,i,d,_,_,h=>by simp at h
 |x::ds,c,0,d,hs,h,hd=>by
  simp only[List.getElem?_cons_zero,Option.some.injEq] at hd
  subst hd
  obtain⟨c1,c2,e,k1,k2⟩:=h
  refine⟨c1,hs _ List.mem_cons_self M c1 k1,k1,λj v hv=>?_⟩
  rw[e,Nat.zero_mul,Nat.zero_add,List.getElem?_append_left (List.getElem?_eq_some_iff.1 hv).1];exact hv
 |x::ds,c,i+1,d,hs,h,hd=>by
  simp only[List.getElem?_cons_succ] at hd
  obtain⟨c1,c2,e,k1,k2⟩:=h
  obtain⟨y,h1,h2,h3⟩:=ae.get i (λd hd=>hs d (List.mem_cons_of_mem _ hd)) k2 hd
  refine⟨y,h1,h2,λj v hv=>?_⟩
  have hl:=hs x List.mem_cons_self M c1 k1
  rw[e,List.getElem?_append_right (by rw[Nat.add_mul];omega),show(i+1)*sz+j-c1.length=i*sz+j by rw[Nat.add_mul];omega]
  exact h3 j v hv
theorem RepArr.cells: ∀ {ds:List Dat} {ad:Addr},RepArr M sz ds ad→∃cs:Lv,cs.length=ds.length*sz∧ae M ds cs∧∀j v,cs[j]? =some v→M.cell? (ad.add j)=some v
 |[],_,_=>⟨[],by simp,rfl,λj v h=>by simp at h⟩
 |d::ds,ad,h=>by
  obtain⟨⟨c,h1,h2,h3⟩,h4⟩:=h
  obtain⟨cs,k1,k2,k3⟩:=RepArr.cells h4
  refine⟨c++cs,by rw[List.length_append,k1,h1,List.length_cons,Nat.add_mul];omega,⟨c,cs,rfl,h2,k2⟩,λj v hv=>?_⟩
  by_cases hj:j<c.length
  ·rw[List.getElem?_append_left hj] at hv;exact h3 j v hv
  rw[List.getElem?_append_right (by omega)] at hv
  have:=k3 _ v hv
  rw[hT,show sz+ (j-c.length)=j by omega] at this
  exact this
mutual
theorem Rep.one {M:Mem}: ∀ (d:Dat) (cs:Lv),Rep M d cs→∀u∈cs,u.oneCell'=true
 |.int _ _,cs,h=>by intro u hu;rw[show cs=_ from h] at hu;simp at hu;subst hu;rfl
 |.bool _,cs,h=>by intro u hu;rw[show cs=_ from h] at hu;simp at hu;subst hu;rfl
 |.str _,cs,h=>by intro u hu;rw[show cs=_ from h] at hu;simp at hu;subst hu;rfl
 |.list _ _,cs,h=>by
  obtain⟨A,cap,e,_⟩:=h
  intro u hu;rw[e] at hu;simp at hu;subst hu;rfl
 |.struct ds,cs,h=>ae.oneC ds cs h
theorem ae.oneC {M:Mem}: ∀ (ds:List Dat) (cs:Lv),ae M ds cs→∀u∈cs,u.oneCell'=true
 |[],cs,h=>by intro u hu;rw[show cs=[] from h] at hu;cases hu
 |d::ds,cs,h=>by
  obtain⟨c1,c2,e,k1,k2⟩:=h
  intro u hu
  rw[e] at hu
  rcases List.mem_append.1 hu with hu|hu
  ·exact Rep.one d c1 k1 u hu
  ·exact ae.oneC ds c2 k2 u hu
end
end
section
variable {α:Type} {w0 w:World} {M M':Mem} {H:List Ent} {sz:Nat} {f:α→Dat} {xs:List α}
theorem Hp.rowSli {e:TypeId} {v:Value} {cs:Lv} (h:Hp w0 M (.row e sz v xs.length cs::H) w) (hf: ∀x,Szd sz (f x)) (hr:ae M (xs.map f) cs):
 ∃A cap M',v=.slice A xs.length cap∧M.le M'∧Hp w0 M' H w∧Sli M' sz f A cap xs:=by
 have hs: ∀d∈xs.map f,Szd sz d:=λd hd=>by obtain⟨x,_,rfl⟩:=List.mem_map.1 hd;exact hf x
 obtain⟨M',h1,h2,h3⟩:=h.rowKnown
 rcases h3 with⟨rfl,hn,rfl⟩|⟨ad,cap,rfl,hcap,_,hc⟩
 ·have:xs=[]:=List.eq_nil_of_length_eq_zero hn
  subst this
  exact⟨none,0,M',rfl,h1,h2,Sli.nil⟩
 exact⟨some ad,cap,M',rfl,h1,h2,hcap,(λe=>by cases e),.inr ⟨ad,rfl,ae.arr hs (ae.mono h1 _ _ hr) hc⟩⟩
theorem Hp.rowAddr {e:TypeId} {n:Nat} {v:Value} {cs:Lv} (h:Hp w0 M H w) (i:Nat) (he:H[i]? =some (.row e sz v n cs)) (hn:0<n):
 ∃g cap,v=.slice (some ⟨g,0,none⟩) n cap∧n≤cap:=by
 obtain⟨h1,h2⟩:=h.rowAt i he
 rcases h2 with⟨rfl,hn'⟩|⟨g,cap,cur,rfl,hg,hh,hnc,hcm,hcs,htk⟩
 ·omega
 exact⟨g,cap,rfl,hnc⟩
theorem Hp.rowCell {e:TypeId} {n m cap g:Nat} {v:Value} {cs:Lv} (h:Hp w0 M H w) (i:Nat) (he:H[i]? =some (.row e sz v n cs)) (hv:v=.slice (some ⟨g,0,none⟩) m cap) (j:Nat) (u:Value) (hu:cs[j]? =some u):
 w.cell? ⟨g,j,none⟩=some u:=by
 obtain⟨h1,h2⟩:=h.rowAt i he
 rcases h2 with⟨h3,_⟩|⟨g',cap',cur,h3,hg,hh,hnc,hcm,hcs,htk⟩
 ·rw[h3] at hv;cases hv
 rw[h3] at hv;cases hv
 have hj:j<n*sz:=h1▸ (List.getElem?_eq_some_iff.1 hu).1
 rw[cell_of_row w _ _ cur e (0,0) hh,←Array.getElem?_toList]
 rw[←htk,List.getElem?_take_of_lt hj] at hu
 simpa using hu
theorem Hp.rowShape {e:TypeId} {n:Nat} {v:Value} {cs:Lv} (h:Hp w0 M H w) (i:Nat) (he:H[i]? =some (.row e sz v n cs)): ∃A cap,v=.slice A n cap∧n≤cap∧(A=none→cap=0):=by
 rcases(h.rowAt i he).2 with⟨rfl,rfl⟩|⟨g,cap,cur,rfl,hg,hh,hnc,_⟩
 ·exact⟨none,0,rfl,Nat.le_refl _,λ_=>rfl⟩
 exact⟨_,cap,rfl,hnc,λe=>by cases e⟩
theorem Hp.rowTrunc {e:TypeId} {n m cap g:Nat} {v:Value} {cs:Lv} (h:Hp w0 M (.row e sz v n cs::H) w) (hv:v=.slice (some ⟨g,0,none⟩) n cap) (hm:m≤n):
 Hp w0 M (.row e sz (.slice (some ⟨g,0,none⟩) m cap) m (cs.take (m*sz))::H) w:=by
 rcases h.rowObj with⟨h1,h2,h3,h4⟩|⟨g',cap',cur,h1,h2,h3,h4,h5,h6,h7⟩
 ·rw[h1] at hv;cases hv
 rw[h1] at hv;cases hv
 have hle:m*sz≤n*sz:=Nat.mul_le_mul_right _ hm
 refine h7.objRow (by omega) h3 h4 ?_ ?_
 ·rw[←h5,List.take_take,Nat.min_eq_left hle]
 rw[List.length_take,h6,Nat.min_eq_left hle]
end
section
variable {α:Type} {P:Program} {ops:Array Oper} {n:Nat} {Q:Exit→Act→World→Prop} {L:Fr} {a:Act} {w0 w:World} {M:Mem} {H:List Ent} {sz:Nat} {f:α→Dat}
theorem ms {o:Oper} {rest:List Oper} {d:Nat} {t e:TypeId} {x y:Operand} {z v:Value} {bytes c:Nat} {A:Oa} {xs ys:List α} {cs:Lv} (hf:Frm n L a dd) (hp:Hp w0 M (.row e sz v xs.length cs::H) w)
 (hcs:ae M (xs.map f) cs) (hys:Sli M sz f A c ys)
 (hw:bi ops L o=some true) (hr:bW L o=true) (hd:o.dst=some d) (hdn:Nat.blt d n=true) (ho:o.op=.call {callee:=.builtin .append,args:=#[x,y],argTypes:=#[t,t]})
 (hx:ev L x=v) (hy:ev L y=.slice A ys.length c) (ht:P.underlying t=some (.slice e)) (hi:infoIs P e z sz bytes=true)
 (hb: (xs.length+ys.length)*bytes≤140737488355328) (h63:xs.length+ys.length≤9223372036854775807)
 (hk': ∀A cap cs' w',Hp w0 M (.row e sz (.slice A (xs++ys).length cap) (xs++ys).length cs'::H) w'→ae M ((xs++ys).map f) cs'→∀a',Frm n ((d,.slice A (xs++ys).length cap)::L) a' dd→wpList P ops Q rest a' w'):wpList P ops Q (o::rest) a w:=by
 have hk: ∀v' cs' w',Hp w0 M (.row e sz v' (xs++ys).length cs'::H) w'→ae M ((xs++ys).map f) cs'→∀a',Frm n ((d,v')::L) a' dd→wpList P ops Q rest a' w':=λv' cs' w' hp' hr' a' ha=>by
  obtain⟨A,cap,rfl,_⟩:=hp'.rowShape 0 rfl
  exact hk' A cap cs' w' hp' hr' a' ha
 obtain⟨h1,h2,h3⟩:=hys
 rcases A with _|ad
 ·have h0:=h2 rfl
  have hy0:ys=[]:=List.eq_nil_of_length_eq_zero (by omega)
  subst hy0;subst h0
  refine pp hf hp hw hr hd hdn ho hx hy ht hi λa' ha=>hk v cs w ?_ ?_ a' ha
  ·simpa using hp
  simpa using hcs
 have h5:RepArr M sz (ys.map f) ad:=by
  rcases h3 with h3|⟨ad',e',h5⟩
  ·subst h3;trivial
  cases e';exact h5
 obtain⟨news,k1,k2,k3⟩:=RepArr.cells h5
 refine mr (z:=z) (news:=news) hf hp hw hr hd hdn ho hx hy ht hi (by simpa using k1) (λj u hu=>hp.cell (k3 j u hu)) (ae.oneC _ _ k2) hb h63 λv' w' hp' a' ha=>hk v' (cs++news) w' ?_ (hcs.more k2) a' ha
 rw[List.length_append];exact hp'
end
end Go.Vc
namespace Go.Vc
open Go Go.RowKit
variable {dd:List Deferred}
theorem bw {τ Λ:Type} {x:Option Λ} {j:Lp τ Λ} {k:τ→Option Λ} {r:Λ} (h:x.map Lp.br=some j) (h2:joinF j k=some r):x=some r:=by
 obtain⟨l,h3,rfl⟩:=Option.map_eq_some_iff.1 h
 rw[h3];exact h2
theorem eG {xs:Bs} {i:Int} {c:UInt8} (h:aB xs i=some c):xs.getD i.toNat 0=c:=by
 obtain⟨_,_,h3⟩:=mv h
 simp[List.getD,h3]
theorem bn {α:Type} {xs:List α} {i:Int} {x:α} (h:aB xs i=some x):0<xs.length:=by
 have:=eV h;have:=eW h;omega
theorem ig {α β:Type} {f:α→β} {xs:List α} {i:Int} {x:α} (h:aB xs i=some x): (xs.map f)[i.toNat]? =some (f x):=by
 rw[List.getElem?_map,(mv h).2.2];rfl
theorem inR_wrap {k:IntKind} {x:Int} (h:inR k x):k.wrap x=x:=by
 cases k<;>simp[inR,IntKind.min,IntKind.max,IntKind.signed,IntKind.bits,IntKind.wrap] at* <;>omega
theorem dv {α:Type} {sz:Nat} {f:α→Dat} {xs:List α} (h: ∀x,Szd sz (f x)): ∀d∈xs.map f,Szd sz d:=λd hd=>by
 obtain⟨x,_,rfl⟩:=List.mem_map.1 hd;exact h x
def embB (c:UInt8):Dat:=.int .u8 (c.toNat:Int)
theorem szd_byte (c:UInt8):Szd 1 (embB c):=nh _ _
theorem ka {M:Mem} {n:Int} (h:0≤n∧n<256):Rep M (embB (UInt8.ofNat n.toNat)) [.int .u8 n]:=by
 show _=[_]
 rw[←byte_mk h.1 h.2]
theorem fz_part {C:Addr→Option Value} {cells:Lv} {base:Addr} (h: ∀j v,cells[j]? =some v→C (base.add j)=some v) (off:Nat) {cs:Lv} (he: (cells.drop off).take cs.length=cs):
 ∀j v,cs[j]? =some v→C ((base.add off).add j)=some v:=λj v hv=>by
 rw[hT]
 have hj:j<cs.length:=(List.getElem?_eq_some_iff.1 hv).1
 rw[←he,List.getElem?_take_of_lt hj,List.getElem?_drop] at hv
 exact h _ _ hv
theorem row_at {w:World} {g k:Nat} {cs c:Lv} (h: ∀j u,cs[j]? =some u→w.cell? ⟨g,j,none⟩=some u) (hc: ∀j v,c[j]? =some v→cs[k+j]? =some v) (j:Nat) (v:Value) (hv:c[j]? =some v):
 w.cell? (((⟨g,0,none⟩:Addr).add k).add j)=some v:=by
 rw[hT,Addr.add_lit,Nat.zero_add];exact h _ _ (hc j v hv)
section
variable {P:Program} {w:World} {ρ:Operand→Value} {o:Oper}
end
section
variable {α:Type} {P:Program} {ops:Array Oper} {n:Nat} {Q:Exit→Act→World→Prop} {L:Fr} {a:Act} {w0 w:World} {M:Mem} {H:List Ent} {sz:Nat} {f:α→Dat}
theorem jW {o:Oper} {rest:List Oper} {d:Nat} {t e:TypeId} {x y:Operand} {z v:Value} {bytes m c:Nat} {ad:Addr} {xs ys:List α} {cs news:Lv} (hf:Frm n L a dd) (hp:Hp w0 M (.row e sz v xs.length cs::H) w)
 (hcs:ae M (xs.map f) cs) (hys:ae M (ys.map f) news)
 (hw:bi ops L o=some true) (hr:bW L o=true) (hd:o.dst=some d) (hdn:Nat.blt d n=true) (ho:o.op=.call {callee:=.builtin .append,args:=#[x,y],argTypes:=#[t,t]})
 (hx:ev L x=v) (hy:ev L y=.slice (some ad) m c) (ht:P.underlying t=some (.slice e)) (hi:infoIs P e z sz bytes=true) (hl: (ys.length,news.length)=(m,m*sz))
 (hn: ∀j u,news[j]? =some u→w.cell? (ad.add j)=some u)
 (hb: (xs.length+m)*bytes≤140737488355328) (h63:xs.length+m≤9223372036854775807)
 (hk': ∀A cap cs' w',Hp w0 M (.row e sz (.slice A (xs++ys).length cap) (xs++ys).length cs'::H) w'→ae M ((xs++ys).map f) cs'→∀a',Frm n ((d,.slice A (xs++ys).length cap)::L) a' dd→wpList P ops Q rest a' w'):wpList P ops Q (o::rest) a w:=by
 have hk: ∀v' cs' w',Hp w0 M (.row e sz v' (xs++ys).length cs'::H) w'→ae M ((xs++ys).map f) cs'→∀a',Frm n ((d,v')::L) a' dd→wpList P ops Q rest a' w':=λv' cs' w' hp' hr' a' ha=>by
  obtain⟨A,cap,rfl,_⟩:=hp'.rowShape 0 rfl
  exact hk' A cap cs' w' hp' hr' a' ha
 simp only[Prod.mk.injEq] at hl
 refine mr (z:=z) (news:=news) hf hp hw hr hd hdn ho hx hy ht hi hl.2 hn (ae.oneC _ _ hys) hb h63 λv' w' hp' a' ha=>hk v' (cs++news) w' ?_ (hcs.more hys) a' ha
 rw[List.length_append,hl.1];exact hp'
end
theorem aU {C:Addr→Option Value} {b:Nat} {cs:Array Value} (h: ∀j v,cs[j]? =some v→C ⟨b,j,none⟩=some v): ∀j v,cs.toList[j]? =some v→C ((⟨b,0,none⟩:Addr).add j)=some v:=λj v hv=>by
 rw[Addr.add_lit,Nat.zero_add];exact h j v (by simpa using hv)
theorem bF {C:Addr→Option Value} {cells:Lv} {base:Addr} (h: ∀j v,cells[j]? =some v→C (base.add j)=some v) (off:Nat) {cs:Lv} (he: (cells.drop off).take cs.length=cs):
 ∀j v,cs[j]? =some v→C ((base.add off).add j)=some v:=fz_part h off he
def Flat (d:Dat):Prop:=∀M M' cs,Rep M d cs→Rep M' d cs
theorem Hp.lend {α:Type} {w0 w:World} {M:Mem} {H:List Ent} {sz:Nat} {f:α→Dat} {xs:List α} {e:TypeId} {v:Value} {cs:Lv} (h:Hp w0 M (.row e sz v xs.length cs::H) w) (hf: ∀x,Szd sz (f x)) (hr:ae M (xs.map f) cs):
 ∃M1 A cap,M.le M1∧v=.slice A xs.length cap∧Hp w0 M1 H w∧Sli M1 sz f A cap xs∧
  ∀M' H' w',M1.le M'→Hp w0 M' H' w'→∃M2,M.le M2∧Hp w0 M2 (.row e sz v xs.length cs::H') w':=by
 have hs: ∀d∈xs.map f,Szd sz d:=dv hf
 rcases h.rowObj with⟨h1,h2,h3,h4⟩|⟨g,cap,cur,h1,h2,h3,h4,h5,h6,h7⟩
 ·have hx:xs=[]:=List.eq_nil_of_length_eq_zero h2
  subst hx;subst h1;subst h3
  exact⟨M,none,0,Mem.le_refl M,rfl,h4,Sli.nil,λM' H' w' hM hp=>⟨M',hM,hp.nilRow _ _⟩⟩
 obtain⟨k1,k2⟩:=h7.freeze
 have hfree:=h7.head_free
 have hge:=h7.start_le
 refine⟨_,some ⟨g,0,none⟩,cap,k1,h1,k2,⟨h2,(λe=>by cases e),.inr ⟨_,rfl,ae.arr hs (ae.mono k1 _ _ hr) λj u hu=>?_⟩⟩,λM' H' w' hM hp=>?_⟩
 ·rw[Addr.add_lit,lu,←Array.getElem?_toList,Nat.zero_add]
  have hj:j<xs.length*sz:=h6▸ (List.getElem?_eq_some_iff.1 hu).1
  rw[←h5,List.getElem?_take_of_lt hj] at hu
  exact hu
 refine⟨M'.del g,Mem.le_del (k1.trans hM) hfree,?_⟩
 have h8:=hp.thaw (hM _ _ (Mem.add_get M g _)) hge
 rw[h1]
 exact h8.objRow h2 h3 h4 h5 h6
theorem ae.bytes {M:Mem}: ∀l:Bs,ae M (l.map embB) (eb l)
 |[]=>rfl
 |c::l=>⟨[.int .u8 c.toNat],eb l,rfl,rfl,ae.bytes l⟩
theorem ae.bytes_eq {M:Mem}: ∀ {l:Bs} {cs:Lv},ae M (l.map embB) cs→cs=eb l
 |[],cs,h=>h
 |c::l,cs,h=>by
  obtain⟨c1,c2,e,k1,k2⟩:=h
  rw[e,show c1=[_] from k1,ae.bytes_eq k2];rfl
end Go.Vc
namespace Go.Vc
open Go Go.RowKit
variable {dd:List Deferred}
section
variable {P:Program} {Q:Exit→Act→World→Prop} {a:Act} {w:World}
end
def bAnd (k:IntKind) (x y:Int):Int:=k.wrap ((BitVec.ofInt k.bits x&&& BitVec.ofInt k.bits y).toNat)
def bOr (k:IntKind) (x y:Int):Int:=k.wrap ((BitVec.ofInt k.bits x|||BitVec.ofInt k.bits y).toNat)
def bShr (k:IntKind) (x y:Int):Int:=x.fdiv (2 ^ min y.toNat k.bits)
theorem qJ (k:IntKind) (h:k=.i64∨k=.i32∨k=.u8∨k=.u32∨k=.u64∨k=.u16∨k=.i16) (c:UInt8):k.wrap ((c.toNat:Nat):Int)=((c.toNat:Nat):Int):=by
 have:=c.toNat_lt
 rcases h with rfl|rfl|rfl|rfl|rfl|rfl|rfl<;>simp[IntKind.wrap,IntKind.bits,IntKind.signed]<;>omega
section
variable {κ V:Type} [DecidableEq κ]
def ew:List (κ×V)→κ→Option V
 |[],_=>none
 |p::r,k=>if p.1=k then some p.2 else ew r k
def bJ:List (κ×V)→κ→V→List (κ×V)
 |[],k,v=>[(k,v)]
 |p::r,k,v=>if p.1=k then(k,v)::r else p::bJ r k v
theorem mget_mput {m:List (κ×V)} {k j:κ} {v:V}:ew (bJ m k v) j=if k=j then some v else ew m j:=by
 induction m with
 |nil=>simp[bJ,ew]
 |cons p r ih=>
  unfold bJ
  by_cases h:p.1=k
  ·rw[if_pos h]
   simp only[ew]
   by_cases hk:k=j
   ·simp[hk]
   have: ¬p.1=j:=λe=>hk (h▸e)
   simp[hk,this]
  rw[if_neg h]
  simp only[ew,ih]
  by_cases hp:p.1=j
  ·have: ¬k=j:=λe=>h (hp.trans e.symm)
   simp[hp,this]
  simp[hp]
theorem sa {ev:V→Value} {k:κ}: ∀ (m:List (κ×V)) (j:Nat),(lkAt k (m.map λp=>(p.1,ev p.2)) j).map (·.2)=(ew m k).map ev
 |[],j=>rfl
 |p::r,j=>by
  simp only[List.map_cons,lkAt,ew]
  by_cases h:p.1=k
  ·simp[h]
  simp only[h,if_false];exact sa r (j+1)
theorem sb {k:κ}: ∀ (m:List (κ×Value)) (j:Nat),lkAt k m (j+1)=(lkAt k m j).map λq=>(q.1+1,q.2)
 |[],j=>rfl
 |p::r,j=>by
  simp only[lkAt]
  by_cases h:p.1=k
  ·simp[h]
  simp only[h,if_false];exact sb r (j+1)
theorem updM_map {ev:V→Value} {k:κ} {v:V}: ∀ (m:List (κ×V)),updM (m.map λp=>(p.1,ev p.2)) k (ev v)=(bJ m k v).map λp=>(p.1,ev p.2)
 |[]=>rfl
 |p::r=>by
  have ih:=updM_map (ev:=ev) (k:=k) (v:=v) r
  unfold updM at ih ⊢
  simp only[List.map_cons,lkAt,bJ]
  by_cases h:p.1=k
  ·simp[h]
  simp only[h,if_false,List.map_cons]
  rw[sb]
  cases hl:lkAt k (r.map λp=>(p.1,ev p.2)) 0 with
  |none=>rw[hl] at ih;simp only[Option.map_none] at ih ⊢;rw[←ih];rfl
  |some q=>rw[hl] at ih;simp only[Option.map_some,List.set_cons_succ] at ih ⊢;rw[←ih]
def sR (ek:κ→Value) (ev:V→Value) (m:List (κ×V)):Obj:=mObj ek (m.map λp=>(p.1,ev p.2))
variable {P:Program} {ops:Array Oper} {n:Nat} {Q:Exit→Act→World→Prop} {L:Fr} {a:Act} {w0 w:World} {M:Mem} {H:List Ent} {ek:κ→Value} {ev:V→Value}
theorem oe {o:Oper} {ρ:Operand→Value} {t kt et:TypeId} {x ix:Operand} {b:Nat} {m:List (κ×V)} {k:κ} {z:V} (ho:o.op=.lookup t x ix false) (hx:ρ x=.map (some b)) (hk:ρ ix=ek k) (ht:P.underlying t=some (.map kt et)) (K:KeyLaw P kt ek)
 (hz: (P.info? et).bind (·.zero)=some (ev z)) (hb:w.heap[b]? =some (sR ek ev m)): (execOp ρ o).run P w=.ok (.value (ev ((ew m k).getD z))) w:=by
 have:=X_lookup (ok:=false) ho hx hk ht K hz hb
 rw[this,sa]
 cases ew m k<;>rfl
theorem X_lookup2 {o:Oper} {ρ:Operand→Value} {t kt et:TypeId} {x ix:Operand} {b:Nat} {m:List (κ×V)} {k:κ} {z:V} (ho:o.op=.lookup t x ix true) (hx:ρ x=.map (some b)) (hk:ρ ix=ek k) (ht:P.underlying t=some (.map kt et)) (K:KeyLaw P kt ek)
 (hz: (P.info? et).bind (·.zero)=some (ev z)) (hb:w.heap[b]? =some (sR ek ev m)): (execOp ρ o).run P w=.ok (.value (.tuple #[ev ((ew m k).getD z),.bool (ew m k).isSome])) w:=by
 have:=X_lookup (ok:=true) ho hx hk ht K hz hb
 have e:=sa (ev:=ev) (k:=k) m 0
 rw[this,e]
 have h2: (lkAt k (m.map λp=>(p.1,ev p.2)) 0).isSome=(ew m k).isSome:=by
  cases h:lkAt k (m.map λp=>(p.1,ev p.2)) 0<;>cases h':ew m k<;>simp[h,h'] at e ⊢
 rw[h2]
 cases ew m k<;>rfl
theorem pr {κ V:Type} {o:Oper} {rest:List Oper} {d:Nat} {t:TypeId} (ek:κ→Value) (ev:V→Value) (hf:Frm n L a dd) (hp:Hp w0 M H w) (hw:bi ops L o=some true) (hr:bW L o=true)
 (hd:o.dst=some d) (hdn:Nat.blt d n=true) (ho:o.op=.makeMap t none)
 (hk: ∀b w',Hp w0 M (.obj b (sR ek ev [])::H) w'→∀a',Frm n ((d,.map (some b))::L) a' dd→wpList P ops Q rest a' w'):wpList P ops Q (o::rest) a w:=
 W_makeMap ek hf hp hw hr hd hdn ho hk
theorem gC {o:Oper} {rest:List Oper} {t kt et:TypeId} {x ix y:Operand} {b:Nat} {m:List (κ×V)} {k:κ} {v:V} (hf:Frm n L a dd) (hp:Hp w0 M (.obj b (sR ek ev m)::H) w) (hw:bi ops L o=some true) (hr:bW L o=true) (hd:o.dst=none)
 (ho:o.op=.mapUpdate t x ix y∨o.op=.insert t x ix y) (hx:Vc.ev L x=.map (some b)) (hk:Vc.ev L ix=ek k) (hv:Vc.ev L y=ev v) (ht:P.underlying t=some (.map kt et)) (K:KeyLaw P kt ek)
 (hq: ∀w',Hp w0 M (.obj b (sR ek ev (bJ m k v))::H) w'→∀a',Frm n L a' dd→wpList P ops Q rest a' w'):wpList P ops Q (o::rest) a w:=by
 refine W_mapUpdate hf hp hw hr hd ho hx hk hv ht K λw' hp' a' ha=>hq w' ?_ a' ha
 rw[updM_map] at hp';exact hp'
end
end Go.Vc
namespace Go.Vc
open Go Go.RowKit
variable {dd:List Deferred}
section
variable {w0 w:World} {M:Mem} {H:List Ent} {b:Nat} {T:TypeId} {fr:Nat×Nat} {sz:Nat}
theorem Hp.rowFront {e:TypeId} {n m:Nat} {A:Oa} {cap:Nat} {v:Value} {cs:Lv} (h:Hp w0 M (.row e sz v n cs::H) w) (hv:v=.slice A n cap) (hm:m≤n):
 Hp w0 M (.row e sz (.slice (cutA A sz 0 cap) m cap) m (cs.take (m*sz))::H) w:=by
 have hown:=h.own _ List.mem_cons_self
 rcases hown.2 with⟨h1,h2⟩|⟨g,cap',cur,h1,_⟩
 ·rw[h1] at hv;cases hv
  have:m=0:=by omega
  subst this
  have hcs:cs=[]:=List.eq_nil_of_length_eq_zero (by rw[hown.1,h2];simp)
  subst hcs
  simpa [cutA] using h.drop.nilRow e sz
 rw[h1] at hv;cases hv
 have:cutA (some ⟨g,0,none⟩) sz 0 cap=some ⟨g,0,none⟩:=by
  unfold cutA;split
  ·rfl
  simp[Addr.add]
 rw[this]
 exact h.rowTrunc h1 hm
theorem Hp.rowPart {e:TypeId} {n lo hi:Nat} {A:Oa} {cap:Nat} {v:Value} {cs:Lv} (h:Hp w0 M H w) (i:Nat) (he:H[i]? =some (.row e sz v n cs)) (hv:v=.slice A n cap) (h1:lo≤hi) (h2:hi≤n):
 (cutA A sz lo cap=none∧hi-lo=0∧cap-lo=0)∨∃ad,cutA A sz lo cap=some ad∧∀j u,((cs.take (hi*sz)).drop (lo*sz))[j]? =some u→w.cell? (ad.add j)=some u:=by
 have hown:=h.rowAt i he
 rcases hown.2 with⟨h3,h4⟩|⟨g,cap',cur,h3,hg,hh,hnc,hcm,hcs,htk⟩
 ·rw[h3] at hv;cases hv
  exact .inl ⟨by unfold cutA;split<;>rfl,by omega,by omega⟩
 have hvv:v=.slice (some ⟨g,0,none⟩) n cap':=h3
 rw[h3] at hv;cases hv
 by_cases hc:cap=lo
 ·refine .inr ⟨⟨g,0,none⟩,by simp[cutA,hc],λj u hu=>?_⟩
  have:hi=lo:=by omega
  subst this
  simp at hu
 refine .inr ⟨(⟨g,0,none⟩:Addr).add (lo*sz),by simp[cutA,hc],λj u hu=>?_⟩
 rw[hT,Addr.add_lit,Nat.zero_add]
 refine h.rowCell i he hvv _ u ?_
 rw[List.getElem?_drop] at hu
 have hj:lo*sz+j<hi*sz:=by
  have:=(List.getElem?_eq_some_iff.1 hu).1
  rw[List.length_take] at this;omega
 rwa [List.getElem?_take_of_lt hj] at hu
end
section
variable {α:Type} {P:Program} {ops:Array Oper} {n:Nat} {Q:Exit→Act→World→Prop} {L:Fr} {a:Act} {w0 w:World} {M:Mem} {H:List Ent} {sz:Nat} {f:α→Dat}
theorem ae.takeD {M:Mem}: ∀ {ds:List Dat} {c:Lv} (i:Nat),(∀d∈ds,Szd sz d)→ae M ds c→ae M (ds.take i) (c.take (i*sz))
 |[],c,i,_,h=>by rw[show c=[] from h];simp[ae]
 |d::ds,c,0,_,_=>by simp[ae]
 |d::ds,c,i+1,hs,h=>by
  obtain⟨c1,c2,e,k1,k2⟩:=h
  have hl:=hs d List.mem_cons_self M c1 k1
  refine⟨c1,c2.take (i*sz),?_,k1,ae.takeD i (λd hd=>hs d (List.mem_cons_of_mem _ hd)) k2⟩
  rw[e,List.take_append,hl,show(i+1)*sz-sz=i*sz by rw[Nat.add_mul];omega,List.take_of_length_le (by rw[hl,Nat.add_mul];omega)]
theorem ae.dropD {M:Mem}: ∀ {ds:List Dat} {c:Lv} (i:Nat),(∀d∈ds,Szd sz d)→ae M ds c→ae M (ds.drop i) (c.drop (i*sz))
 |[],c,i,_,h=>by rw[show c=[] from h];simp[ae]
 |d::ds,c,0,_,h=>by simpa using h
 |d::ds,c,i+1,hs,h=>by
  obtain⟨c1,c2,e,k1,k2⟩:=h
  have hl:=hs d List.mem_cons_self M c1 k1
  have:=ae.dropD i (λd hd=>hs d (List.mem_cons_of_mem _ hd)) k2
  have e0:c1.drop ((i+1)*sz)=[]:=List.drop_eq_nil_of_le (by rw[hl,Nat.add_mul];omega)
  rw[List.drop_succ_cons,e,List.drop_append,e0,List.nil_append,hl,show(i+1)*sz-sz=i*sz by rw[Nat.add_mul];omega]
  exact this
theorem tg {o:Oper} {rest:List Oper} {d:Nat} {t e:TypeId} {x y:Operand} {z v:Value} {bytes lo hi:Nat} {A:Oa} {cap:Nat} {v2:Value} {xs ys:List α} {cs cs2:Lv} (hf:Frm n L a dd) (hp:Hp w0 M (.row e sz v xs.length cs::H) w) (hs: ∀x,Szd sz (f x))
 (hcs:ae M (xs.map f) cs) (hys:ae M (ys.map f) cs2) (i:Nat) (he: (.row e sz v xs.length cs::H)[i]? =some (.row e sz v2 ys.length cs2)) (hv2:v2=.slice A ys.length cap) (h1:lo≤hi) (h2:hi≤ys.length)
 (hw:bi ops L o=some true) (hr:bW L o=true) (hd:o.dst=some d) (hdn:Nat.blt d n=true) (ho:o.op=.call {callee:=.builtin .append,args:=#[x,y],argTypes:=#[t,t]})
 (hx:ev L x=v) (hy:ev L y=.slice (cutA A sz lo cap) (hi-lo) (cap-lo)) (ht:P.underlying t=some (.slice e)) (hi':infoIs P e z sz bytes=true)
 (hb: (xs.length+ (hi-lo))*bytes≤140737488355328) (h63:xs.length+ (hi-lo)≤9223372036854775807)
 (hk': ∀A cap cs' w',Hp w0 M (.row e sz (.slice A (xs++(ys.take hi).drop lo).length cap) (xs++(ys.take hi).drop lo).length cs'::H) w'→ae M ((xs++(ys.take hi).drop lo).map f) cs'→∀a',Frm n ((d,.slice A (xs++(ys.take hi).drop lo).length cap)::L) a' dd→wpList P ops Q rest a' w'):wpList P ops Q (o::rest) a w:=by
 have hk: ∀v' cs' w',Hp w0 M (.row e sz v' (xs++(ys.take hi).drop lo).length cs'::H) w'→ae M ((xs++(ys.take hi).drop lo).map f) cs'→∀a',Frm n ((d,v')::L) a' dd→wpList P ops Q rest a' w':=λv' cs' w' hp' hr' a' ha=>by
  obtain⟨A,cap,rfl,_⟩:=hp'.rowShape 0 rfl
  exact hk' A cap cs' w' hp' hr' a' ha
 have hseg:ae M (((ys.take hi).drop lo).map f) ((cs2.take (hi*sz)).drop (lo*sz)):=by
  rw[List.map_drop,List.map_take]
  exact ae.dropD lo (λd hd=>dv hs d (List.mem_of_mem_take hd)) (ae.takeD hi (dv hs) hys)
 have hlen: ((ys.take hi).drop lo).length=hi-lo:=by rw[List.length_drop,List.length_take,Nat.min_eq_left h2]
 rcases hp.rowPart i he hv2 h1 h2 with⟨e1,e2,e3⟩|⟨ad,e1,e2⟩
 ·rw[e1,e2,e3] at hy
  have hy0: (ys.take hi).drop lo=[]:=List.eq_nil_of_length_eq_zero (by omega)
  refine pp hf hp hw hr hd hdn ho hx hy ht hi' λa' ha=>hk v cs w ?_ ?_ a' ha
  ·rw[hy0,List.append_nil];exact hp
  rw[hy0,List.append_nil];exact hcs
 rw[e1] at hy
 have hl: ((cs2.take (hi*sz)).drop (lo*sz)).length=(hi-lo)*sz:=by
  have:=ae.len (dv hs) hseg
  rw[this,List.length_map,hlen]
 refine mr (z:=z) hf hp hw hr hd hdn ho hx hy ht hi' hl e2 (ae.oneC _ _ hseg) hb h63 λv' w' hp' a' ha=>hk v' _ w' ?_ (hcs.more hseg) a' ha
 rw[List.length_append,hlen];exact hp'
end
end Go.Vc
namespace Go.Vc
open Go Go.RowKit
variable {dd:List Deferred}
section
variable {P:Program} {ops:Array Oper} {n:Nat} {K:Act→Prop} {L:Fr} {a:Act} {w0 w:World} {M:Mem} {H:List Ent}
theorem cY {o:Oper} {rest:List Oper} {v:Value} {d:Nat} (hf:Frm n L a dd) (hw:bi ops L o=some true) (hr:bW L o=true) (hd:o.dst=some d) (hdn:Nat.blt d n=true)
 (hx: (execOp (ev L) o).run P w=.ok (.value v) w) (hk: ∀a',Frm n ((d,v)::L) a' dd→wpStill P ops w K rest a'):wpStill P ops w K (o::rest) a:=by
 simp only[wpStill]
 rw[hf.wanted hw,if_pos rfl]
 unfold Oper.still
 rw[hf.exec hr,hx]
 refine⟨rfl,?_⟩
 rw[hd];exact hk _ (hf.put (by simpa [Nat.blt_eq] using hdn) v)
theorem qi {l:List Oper} (hl:l=[]) (h:K a):wpStill P ops w K l a:=by subst hl;exact h
theorem po {id:Nat} {Q:Exit→Act→World→Prop} {l:List Oper} (m:Nat) (hp:Hp w0 M H w) (hm:P.follows .mixedOrders=true) (hB:Region.lexTailB .any l.toArray m=true)
 (h: ∀w',Hp w0 M H w'→wpStill P l.toArray w' (λa'=>wpList P l.toArray Q (l.drop m) a' w') (l.take m) a): (Code.region id l.toArray true).wp P Q a w:=
 wp_region_still_tail m hm hB (h _ hp.drew)
end
end Go.Vc
end
section
namespace Go.Vc
open Go
mutual
def Vld:Dat→Prop
 |.int k n=>(Lit.int k n).wf=true
 |.bool _=>True
 |.str l=>l.length≤maxLen
 |.list _ ds=>ds.length≤maxLen∧VldAll ds
 |.struct ds=>VldAll ds
def VldAll:List Dat→Prop
 |[]=>True
 |d::ds=>Vld d∧VldAll ds
end
theorem VldAll.at_: ∀ {ds:List Dat} {d:Dat},VldAll ds→d∈ds→Vld d
 |[],_,_,h=>by cases h
 |x::ds,d,hv,h=>by
  rcases List.mem_cons.1 h with rfl|h
  ·exact hv.1
  exact VldAll.at_ hv.2 h
theorem VldAll.mk: ∀ {ds:List Dat},(∀d∈ds,Vld d)→VldAll ds
 |[],_=>trivial
 |d::_,h=>⟨h d List.mem_cons_self,VldAll.mk λx hx=>h x (List.mem_cons_of_mem _ hx)⟩
def Opn {H:Type} (enc:TypeId×Value→H) (P:Program) (w:World) (t:TypeId) {α:Type} (f:α→Dat) (n:Nat):Prop:=
 ∀m,m≤n→∀cs x,DataW.trod enc P w 0 (λ_=>true) true m t cs=some x→∃a,Rep (Mem.of w) (f a) cs∧Vld (f a)
section
variable {H:Type} {enc:TypeId×Value→H} {P:Program} {w:World} {t:TypeId} {α:Type} {f:α→Dat} {n:Nat}
theorem Opn.zero:Opn enc P w t f 0:=λm hm cs x h=>by
 obtain rfl:m=0:=by omega
 simp[DataW.trod] at h
theorem Opn.le {n':Nat} (h:Opn enc P w t f n) (hn:n'≤n):Opn enc P w t f n':=λm hm=>h m (Nat.le_trans hm hn)
theorem cells_of {a:Addr} {k:Nat} {cs:Lv} (h:w.cells? 0 a k=some cs):cs.length=k∧∀j v,cs[j]? =some v→(Mem.of w).cell? (a.add j)=some v:=by
 obtain⟨_,h2,h3⟩:=World.cells?_some h
 refine⟨h2,λj v hv=>?_⟩
 have hj:j<k:=h2▸ (List.getElem?_eq_some_iff.1 hv).1
 exact(h3 j hj).trans hv
theorem ae.cut {M:Mem} {d:Dat} {ds:List Dat} {cs:Lv} {k:Nat} (h1:Rep M d (cs.take k)) (h2:ae M ds (cs.drop k)):ae M (d::ds) cs:=⟨cs.take k,cs.drop k,(List.take_append_drop k cs).symm,h1,h2⟩
end
end Go.Vc
end
section
namespace Go.Vc
open Go Go.RowKit
variable {dd:List Deferred}
section
variable {P:Program} {ops:Array Oper} {n:Nat} {Q:Exit→Act→World→Prop} {L:Fr} {a:Act} {w0 w:World} {M:Mem} {H:List Ent}
theorem pt {o:Oper} {rest:List Oper} {t:TypeId} {x y:Operand} {b j:Nat} {vs:Lv} {cs cs':Array Value} {T:TypeId} {lo hi:Nat} (hf:Frm n L a dd) (hp:Hp w0 M (.obj b (.cells cs T (lo,hi))::H) w)
 (hw:bi ops L o=some true) (hr:bW L o=true) (hd:o.dst=none) (ho:o.op=.store t x y) (hx:ev L x=.pointer (some ⟨b,j,none⟩)) (hy:ev L y=.agg vs.toArray) (h1: ∀v∈vs,v.oneCell'=true) (hs:szIs P t vs.length=true)
 (hj:j+vs.length≤cs.size) (hfr:hi≤lo) (hH:setM cs j vs=cs')
 (hk: ∀w',Hp w0 M (.obj b (.cells cs' T (lo,hi))::H) w'→∀a',Frm n L a' dd→wpList P ops Q rest a' w'):wpList P ops Q (o::rest) a w:=by
 subst hH
 have hrun:=run_storeCells_cells (P:=P) b j vs 0 w
  (λi hi=>by
   have:=hp.ownCell 0 rfl (j+i)
   rw[Nat.add_zero]
   rw[this]
   simp
   omega)
  (λi _=>by
   rw[Nat.add_zero]
   exact hp.ownFrozen 0 rfl (j+i) (by omega)) h1
 refine W_skip hf hw hr hd ?_ (hk (w.setCells b j vs) (hp.setCells vs j))
 unfold execOp
 simp only[ho,hx,hy,Instr.storeAt,Instr.sureAddr,Sem.run_bind,Sem.run_pure,Result.andThen_ok,storeVar,Value.cells,ja hs]
 simp only[List.size_toArray,ne_eq,not_true_eq_false,if_false]
 rw[Nat.add_zero] at hrun
 simpa using congrArg (λr=>Result.andThen r _) hrun
end
section
variable {P:Program} {w0 w:World} {M:Mem} {H:List Ent} {ρ:Operand→Value} {o:Oper}
end
section
variable {P:Program} {w:World} {ρ:Operand→Value} {o:Oper}
theorem X_min {x y:Operand} {t t':TypeId} {k:IntKind} {a b:Int} (ho:o.op=.call {callee:=.builtin .min,args:=#[x,y],argTypes:=#[t,t']}) (hx:ρ x=.int k a) (hy:ρ y=.int k b):
 (execOp ρ o).run P w=.ok (.value (.int k (min a b))) w:=by
 have:min a b=if b<a then b else a:=by split<;>omega
 rw[this]
 unfold execOp
 simp only[ho,resolve,invoke,builtin,List.map_toArray,List.map_cons,List.map_nil,hx,hy,Sem.run_bind,Sem.run_pure,Result.andThen_ok]
 simp[Builtin.min_,Builtin.min2]
theorem X_max {x y:Operand} {t t':TypeId} {k:IntKind} {a b:Int} (ho:o.op=.call {callee:=.builtin .max,args:=#[x,y],argTypes:=#[t,t']}) (hx:ρ x=.int k a) (hy:ρ y=.int k b):
 (execOp ρ o).run P w=.ok (.value (.int k (max a b))) w:=by
 have:max a b=if b>a then b else a:=by split<;>omega
 rw[this]
 unfold execOp
 simp only[ho,resolve,invoke,builtin,List.map_toArray,List.map_cons,List.map_nil,hx,hy,Sem.run_bind,Sem.run_pure,Result.andThen_ok]
 simp[Builtin.max_,Builtin.max2]
end
section
variable {α:Type} {P:Program} {ops:Array Oper} {n:Nat} {Q:Exit→Act→World→Prop} {L:Fr} {a:Act} {w0 w:World} {M:Mem} {H:List Ent} {sz:Nat} {f:α→Dat}
theorem qj {o:Oper} {rest:List Oper} {d:Nat} {t tx e:TypeId} {x y:Operand} {z v:Value} {xs l:Bs} {cs:Lv} (hf:Frm n L a dd) (hp:Hp w0 M (.row e 1 v xs.length cs::H) w) (hcs:ae M (xs.map embB) cs)
 (hw:bi ops L o=some true) (hr:bW L o=true) (hd:o.dst=some d) (hdn:Nat.blt d n=true) (ho:o.op=.call {callee:=.builtin .append,args:=#[x,y],argTypes:=#[t,tx]})
 (hx:ev L x=v) (hy:ev L y=S l) (ht:P.underlying t=some (.slice e)) (htx:P.underlying tx=some .string) (hi:infoIs P e z 1 1=true)
 (hb: (xs.length+l.length)*1≤140737488355328) (h63:xs.length+l.length≤9223372036854775807)
 (hk: ∀A cap cs' w',Hp w0 M (.row e 1 (.slice A (xs++l).length cap) (xs++l).length cs'::H) w'→ae M ((xs++l).map embB) cs'→∀a',Frm n ((d,.slice A (xs++l).length cap)::L) a' dd→wpList P ops Q rest a' w'):wpList P ops Q (o::rest) a w:=by
 obtain⟨i,u,hi1,hi2,hi3,hi4,hi5,hi6⟩:=info_of hi
 have hsrc:=Src.ofString (P:=P) w htx (mkS l)
 have e1: (mkS l).size=l.length:=rfl
 have e2:byteCells (mkS l)=eb l:=by simp[byteCells,eb]
 rw[e1,e2] at hsrc
 obtain⟨v',w',hrun,hp'⟩:=hp.appendSrc (ty:=o.type) hsrc ht hi1 hi2 hi3 hi5 (by omega) (by rw[hi4];exact hb) h63
 obtain⟨A,cap,rfl,_⟩:=hp'.rowShape 0 rfl
 have hx': (execOp (ev L) o).run P w=.ok (.value (.slice A (xs.length+l.length) cap)) w':=by
  unfold execOp
  simp only[ho,resolve,invoke,builtin,Sem.run_bind,Sem.run_pure,Result.andThen_ok,List.map_toArray,List.map_cons,List.map_nil,hx,hy]
  simp only[S] at hy ⊢
  rw[hrun]
  rfl
 refine oz hf hw hr hd hdn hx' λa' ha=>?_
 have e3:xs.length+l.length=(xs++l).length:=by simp
 rw[e3] at ha hp'
 exact hk A cap (cs++eb l) w' hp' (hcs.more (ae.bytes l)) a' ha
end
def rvOf (tmps:Array Value):ResultVar→Sem Value
 |.tmp t=>pure (tmps.getD t undef)
 |.cell x t=>do loadVar t (←asAddr (tmps.getD x undef))
theorem lJ (fn:Func) (tmps:Array Value):results fn tmps=(do
 let vs ←fn.results.mapM (rvOf tmps)
 pure (if h:vs.size=1 then vs[0] else .tuple vs)):=rfl
section
variable {P:Program} {fn:Func} {n:Nat} {L:Fr} {a:Act} {w:World} {R:Ending→World→Prop}
def Rv (P:Program) (a:Act) (w:World) (r:ResultVar) (v:Value):Prop:=(rvOf a.tmps r).run P w=.ok v w
theorem Rv.slot (hf:Frm n L a dd) {t:Nat} {v:Value} (h:look L t=some v):Rv P a w (.tmp t) v:=by
 unfold Rv rvOf
 simp only[lk hf h,Sem.run_pure]
theorem Rv.cell1 (hf:Frm n L a dd) {x t:Nat} {ad:Addr} {v:Value} (h:look L x=some (.pointer (some ad))) (ht:one1 P t=true) (hc:w.cell? ad=some v):Rv P a w (.cell x t) v:=by
 unfold Rv rvOf
 simp only[lk hf h,asAddr,Sem.run_bind,Sem.run_pure,Result.andThen_ok,loadVar,sA ht]
 simp[hc]
theorem Rv.cellN (hf:Frm n L a dd) {x t:Nat} {ad:Addr} {cs:Lv} (h:look L x=some (.pointer (some ad))) (ht:aggN P t cs.length=true) (hc: ∀j v,cs[j]? =some v→w.cell? (ad.add j)=some v):Rv P a w (.cell x t) (.agg cs.toArray):=by
 unfold Rv rvOf
 obtain⟨h1,h2⟩:=sB (w:=w) ht
 simp only[lk hf h,asAddr,Sem.run_bind,Sem.run_pure,Result.andThen_ok,loadVar,h1,if_true,ja h2,run_loadCells_list w ad cs hc]
theorem bM {r0:ResultVar} {v0:Value} (hf:Frm n L a) (hr:fn.results=#[r0]) (h0:Rv P a w r0 v0) (h:R (.returned (v0)) w):bodyPost P fn R .ret a w:=
 ⟨hf.defers,_,by
  unfold Rv at h0
  rw[lJ,hr]
  simp[h0],h⟩
theorem nn {r0 r1:ResultVar} {v0 v1:Value} (hf:Frm n L a) (hr:fn.results=#[r0,r1]) (h0:Rv P a w r0 v0) (h1:Rv P a w r1 v1) (h:R (.returned (.tuple #[v0,v1])) w):bodyPost P fn R .ret a w:=
 ⟨hf.defers,_,by
  unfold Rv at h0 h1
  rw[lJ,hr]
  simp[h0,h1],h⟩
theorem pn {r0 r1 r2:ResultVar} {v0 v1 v2:Value} (hf:Frm n L a) (hr:fn.results=#[r0,r1,r2]) (h0:Rv P a w r0 v0) (h1:Rv P a w r1 v1) (h2:Rv P a w r2 v2) (h:R (.returned (.tuple #[v0,v1,v2])) w):bodyPost P fn R .ret a w:=
 ⟨hf.defers,_,by
  unfold Rv at h0 h1 h2
  rw[lJ,hr]
  simp[h0,h1,h2],h⟩
end
end Go.Vc
namespace Go.Vc
open Go Go.RowKit
variable {dd:List Deferred}
section
variable {P:Program} {ops:Array Oper} {md:Region.Mode} {C:World→Prop}
end
section
variable {P:Program} {w0 w:World} {M:Mem} {H:List Ent} {a:Act}
end
end Go.Vc
namespace Go.Vc
open Go Go.RowKit
variable {dd:List Deferred}
section
variable {P:Program} {ops:Array Oper} {md:Region.Mode} {Q:Exit→Act→World→Prop} {I:Type} {Cl:I→World→Prop}
def noPan (Q:Exit→Act→World→Prop):Exit→Act→World→Prop
 |.panic c,a,w=>∀a':Act,a'.tmps.size=a.tmps.size→a'.defers=a.defers→Q (.panic c) a' w
 |e,a,w=>Q e a w
def mixQ (Q:Exit→Act→World→Prop) (K:Act→World→Prop):Exit→Act→World→Prop
 |.normal,a,w=>K a w
 |.panic c,a,w=>∀a':Act,a'.tmps.size=a.tmps.size→a'.defers=a.defers→Q (.panic c) a' w
 |e,a,w=>Q e a w
theorem put_size (a:Act) (d:Option Nat) (v:Value): (a.put d v).tmps.size=a.tmps.size:=by
 unfold Act.put
 cases d<;>simp
theorem put_dfs (a:Act) (d:Option Nat) (v:Value): (a.put d v).defers=a.defers:=by
 unfold Act.put
 cases d<;>simp
theorem tI {c:List PanicEntry} {a:Act} {d:Option Nat} {v:Value} {w:World} (h:noPan Q (.panic c) (a.put d v) w):noPan Q (.panic c) a w:=
 λa' h1 h2=>h a' (h1.trans (put_size a d v).symm) (h2.trans (put_dfs a d v).symm)
theorem pJ {K:Act→World→Prop} (h:LetsOut (mixQ Q K)):LetsOut (noPan Q):=h
theorem Oper.wp_mixQ {o:Oper} {a:Act} {w:World} {K:Act→World→Prop} (h:o.wp P a w (λa w=>mixQ Q K .normal a w) (mixQ Q K)):o.wp P a w K (noPan Q):=by
 unfold Oper.wp at*
 generalize (execOp a.eval o).run P w=r at*
 cases r with
 |ok n w'=>
  cases n<;>simp only[Oper.upon] at h ⊢ <;>
   first
    |exact h
    |exact Calls.mono h (λe w'' he=>by cases e<;>exact he)
 |halt x w'=>cases x<;>simp only[Oper.upon] at h ⊢ <;>exact h
def YieldsU (P:Program) (ops:Array Oper) (Cl:I→World→Prop) (o:Oper) (v:Value) (a:Act):Prop:=
 (Region.wanted o (yielded ops a.tmps)=true∧∀i w,Cl i w→o.quietAt P a (Cl i) w v)∨
 (Region.wanted o (yielded ops a.tmps)=false∧v=undef)
theorem YieldsU.one {o:Oper} {v:Value} {a:Act} (hy:YieldsU P ops Cl o v a) (i:I):YieldsIn P ops (Cl i) o v a:=by
 rcases hy with⟨h1,h2⟩|h
 ·exact .inl ⟨h1,h2 i⟩
 exact .inr h
theorem YieldsU.of_same {o:Oper} {v:Value} {a a':Act} (hy:YieldsU P ops Cl o v a) (he:execOp a'.eval o=execOp a.eval o)
 (hw:Region.wanted o (yielded ops a'.tmps)=Region.wanted o (yielded ops a.tmps)):YieldsU P ops Cl o v a':=by
 unfold YieldsU Oper.quietAt at*
 rw[he,hw]
 exact hy
theorem tS {j:Nat} {oi oj:Oper} {v:Value} (hj:ops[j]? =some oj) (hap:oi.apart ops oj=true)
 (hsi: ∀cs b,oi.op≠ .select cs b) (hsj: ∀cs b,oj.op≠ .select cs b) {K:Act→World→Prop} {a:Act} {w:World}
 (hy:YieldsU P ops Cl oi v a) (h:wpOp P ops (noPan Q) j K (a.put oi.dst v) w):
 wpOp P ops (noPan Q) j (λa' w'=>YieldsU P ops Cl oi v a'∧K (a'.put oi.dst v) w') a w:=by
 obtain⟨h1,h2,h3⟩:=Oper.apart_spec hap
 have keep: ∀ (a:Act),YieldsU P ops Cl oi v a→∀u,YieldsU P ops Cl oi v (a.put oj.dst u):=λa hy u=>
  hy.of_same (execOp_put oi hsi a oj.dst u h3) (wanted_put oi a oj.dst u h3)
 have keepD: ∀d,YieldsU P ops Cl oi v {a with defers:=d::a.defers}:=λd=>hy.of_same rfl rfl
 unfold wpOp at*
 simp only[hj] at*
 rw[wanted_put oj a oi.dst v h1] at h
 split
 ·rename_i hw
  simp only[hw,if_true] at h
  rcases h with h|⟨hasks,hlets⟩
  case inr=>exact .inr ⟨by unfold Oper.asks at*;rw[execOp_put oj hsj a oi.dst v h1] at hasks;exact hasks,hlets⟩
  refine .inl ?_
  unfold Oper.wp at*
  rw[execOp_put oj hsj a oi.dst v h1] at h
  generalize (execOp a.eval oj).run P w=r at*
  cases r with
  |ok n w'=>
   cases n<;>simp only[Oper.upon] at h ⊢
   case value u=>exact⟨keep a hy u,by rw[←Act.put_comm a v u h2];exact h⟩
   case skip=>exact⟨keep a hy _,by rw[←Act.put_comm a v undef h2];exact h⟩
   case defer d=>
    refine⟨keep _ (keepD d) _,?_⟩
    rw[←Act.put_comm _ v undef h2,←Act.put_defers]
    exact h
   case enter f args=>
    refine Calls.mono h λe w'' he=>?_
    cases e with
    |returned u=>exact⟨keep a hy u,by rw[←Act.put_comm a v u h2];exact he⟩
    |panicked c=>exact tI he
    |outgrown=>exact he
   case row row args=>exact Go.Rows.mono h λu w'' he=>⟨keep a hy u,by rw[←Act.put_comm a v u h2];exact he⟩
  |halt x w'=>
   cases x<;>simp only[Oper.upon] at h ⊢
   case panic u=>exact tI h
 rename_i hw
 simp only[hw] at h
 exact⟨keep a hy _,by rw[←Act.put_comm a v undef h2];exact h⟩
def wpAnyI (P:Program) (md:Region.Mode) (ops:Array Oper) (Q:Exit→Act→World→Prop) (Cl:I→World→Prop):Nat→Array Bool→Act→I→Prop
 |0,listed,a,i=>Region.ready md ops listed=[]∧∀w,Cl i w→Q .normal a w
 |f+1,listed,a,i=>(Region.ready md ops listed=[]→∀w,Cl i w→Q .normal a w)∧
  ∀w,Cl i w→∀j∈Region.ready md ops listed,wpOp P ops (noPan Q) j (λa' w'=>∃i',Cl i' w'∧wpAnyI P md ops Q Cl f (listed.setIfInBounds j true) a' i') a w
theorem sK: ∀ (f:Nat) (listed:Array Bool) (a:Act) (i:I) (w:World),Cl i w→wpAnyI P md ops Q Cl f listed a i→wpAny P md ops (noPan Q) f listed a w
 |0,_,_,_,w,hw,h=>⟨h.1,h.2 w hw⟩
 |f+1,_,_,_,w,hw,h=>⟨λh0=>h.1 h0 w hw,λj hj=>wpOp_mono (λa' w' ⟨i',h1,h2⟩=>sK f _ a' i' w' h1 h2) (h.2 w hw j hj)⟩
theorem YieldsU.wpOp {k:Nat} {o:Oper} {v:Value} {a:Act} {w:World} {i:I} (hk:ops[k]? =some o) (hy:YieldsU P ops Cl o v a) (hC:Cl i w) {K:Act→World→Prop} (h: ∀w',Cl i w'→K (a.put o.dst v) w'):
 wpOp P ops (noPan Q) k K a w:=
 wpOp_of_qOp (C:=Cl i) (K:=λa'=>a'=a.put o.dst v) hC (λa' w' hw' e=>by subst e;exact h w' hw') ((hy.one i).qOp hk rfl)
theorem wpAnyI_first {k:Nat} {ok:Oper} {v:Value} (hk:ops[k]? =some ok) (hsel: ∀ (j:Nat) (o:Oper) cs b,ops[j]? =some o→o.op≠ .select cs b):
 ∀ (f:Nat) (listed:Array Bool) (a:Act) (i:I),
  (∀j oj,ops[j]? =some oj→j≠k→listed.getD j true=false→(∀e∈oj.after,Region.binds md e=true→e.on≠k)→ok.apart ops oj=true)→
  k∈Region.ready md ops listed→YieldsU P ops Cl ok v a→
  wpAnyI P md ops Q Cl f (listed.setIfInBounds k true) (a.put ok.dst v) i→wpAnyI P md ops Q Cl (f+1) listed a i:=by
 intro f
 induction f with
 |zero=>
  intro listed a i _ hr hy H
  refine⟨λh=>(by rw[h] at hr;cases hr),λw hw j hj=>?_⟩
  by_cases hji:j=k
  ·subst hji;exact hy.wpOp hk hw λw' hw'=>⟨i,hw',H⟩
  have:=ready_mono hj hji
  rw[H.1] at this
  cases this
 |succ f ih=>
  intro listed a i hfree hr hy H
  refine⟨λh=>(by rw[h] at hr;cases hr),λw hw j hj=>?_⟩
  by_cases hji:j=k
  ·subst hji;exact hy.wpOp hk hw λw' hw'=>⟨i,hw',H⟩
  have h1:=H.2 w hw j (ready_mono hj hji)
  obtain⟨hjun,oj,hoj,hall⟩:=mem_ready.1 hj
  have hnot: ∀e∈oj.after,Region.binds md e=true→e.on≠k:=λe he hb heq=>by
   have h1:=hall e he hb
   have h0:=(mem_ready.1 hr).1
   rw[heq] at h1
   rcases Nat.lt_or_ge k listed.size with h'|h'
   ·simp[h'] at h0 h1;rw[h0] at h1;cases h1
   simp[Array.getElem?_eq_none h'] at h1
  have h2:=tS hoj (hfree j oj hoj hji hjun hnot) (λcs b=>hsel k ok cs b hk) (λcs b=>hsel j oj cs b hoj) hy h1
  have hfree': ∀m om,ops[m]? =some om→m≠k→(listed.setIfInBounds j true).getD m true=false→
   (∀e∈om.after,Region.binds md e=true→e.on≠k)→ok.apart ops om=true:=λm om hm hmk hun hno=>by
   refine hfree m om hm hmk ?_ hno
   by_cases hjm:j=m
   ·subst hjm;exact hjun
   rw[Go.getD_set_ne true hjm] at hun;exact hun
  refine wpOp_mono (λa' w' ⟨h3,i',h4,h5⟩=>⟨i',h4,ih (listed.setIfInBounds j true) a' i' hfree' (ready_mono hr (Ne.symm hji)) h3 ?_⟩) h2
  rw[Array.setIfInBounds_comm _ _ hji]
  exact h5
def wpMix (P:Program) (ops:Array Oper) (Q:Exit→Act→World→Prop) (Cl:I→World→Prop):List (Bool×Oper)→Act→I→Prop
 |[],a,i=>∀w,Cl i w→Q .normal a w
 |(true,o)::r,a,i=>∃v,YieldsU P ops Cl o v a∧wpMix P ops Q Cl r (a.put o.dst v) i
 |(false,o)::r,a,i=>∀w,Cl i w→wpList P ops (mixQ Q λa' w'=>∃i',Cl i' w'∧wpMix P ops Q Cl r a' i') [o] a w
def atL:List Oper→Nat→Option Oper
 |[],_=>none
 |o::_,0=>some o
 |_::r,k+1=>atL r k
theorem rH: ∀ (l:List Oper) (k:Nat),atL l k=l[k]?
 |[],_=>rfl
 |_::_,0=>rfl
 |_::r,k+1=>by rw[atL,rH r k];rfl
def pickL (l:List Oper):List (Nat×Bool)→List (Bool×Oper)
 |[]=>[]
 |(k,b)::r=>match atL l k with
  |some o=>(b,o)::pickL l r
  |none=>pickL l r
def Region.mixB (md:Region.Mode) (ops:Array Oper):List (Nat×Bool)→Array Bool→Bool
 |[],listed=>(Region.ready md ops listed).isEmpty
 |(k,b)::r,listed=>decide (k<ops.size)&& (match b with
    |true=>(Region.ready md ops listed).contains k&&Region.free md ops listed k
    |false=>decide (Region.ready md ops listed=[k]))&&Region.mixB md ops r (listed.setIfInBounds k true)
theorem mq {l:List Oper} (hs:Region.noSelect l.toArray=true): ∀ (ord:List (Nat×Bool)) (listed:Array Bool) (a:Act) (i:I),
 Region.mixB md l.toArray ord listed=true→wpMix P l.toArray Q Cl (pickL l ord) a i→wpAnyI P md l.toArray Q Cl ord.length listed a i
 |[],_,_,_,hB,h=>⟨by simpa [Region.mixB] using hB,h⟩
 |(k,b)::r,listed,a,i,hB,h=>by
  simp only[Region.mixB,Bool.and_eq_true,decide_eq_true_eq] at hB
  obtain⟨⟨hk,hb⟩,hB'⟩:=hB
  have hk':k<l.length:=by simpa using hk
  have h0:l.toArray[k]? =some l[k]:=by simp[hk']
  have h1:pickL l ((k,b)::r)=(b,l[k])::pickL l r:=by
   have:atL l k=some l[k]:=by rw[rH];simp[hk']
   simp only[pickL,this]
  rw[h1] at h
  cases b with
  |true=>
   obtain⟨v,hy,hK⟩:=h
   simp only[Bool.and_eq_true] at hb
   exact wpAnyI_first h0 (Region.noSelect_spec hs) r.length listed a i (Region.free_spec h0 hb.2) (by simpa using hb.1) hy (mq hs r _ _ _ hB' hK)
  |false=>
   simp only[decide_eq_true_eq] at hb
   refine⟨λh2=>(by rw[h2] at hb;cases hb),λw hw j hj=>?_⟩
   rw[hb] at hj
   obtain rfl:j=k:=by simpa using hj
   have h3:=h w hw
   simp only[wpList] at h3
   unfold wpOp
   simp only[h0]
   have mono: ∀a' w',(mixQ Q (λa' w'=>∃i',Cl i' w'∧wpMix P l.toArray Q Cl (pickL l r) a' i') .normal a' w')→∃i',Cl i' w'∧wpAnyI P md l.toArray Q Cl r.length (listed.setIfInBounds j true) a' i':=
    λa' w' ⟨i',h4,h5⟩=>⟨i',h4,mq hs r _ _ _ hB' h5⟩
   split
   ·rename_i hw'
    simp only[hw',if_true] at h3
    rcases h3 with h3|⟨h3,h4⟩
    ·exact .inl (Oper.wp_mono mono (Oper.wp_mixQ h3))
    exact .inr ⟨h3,pJ h4⟩
   rename_i hw'
   simp only[hw'] at h3
   exact mono _ _ h3
theorem tH {e:Exit} {a:Act} {w:World} (h:noPan Q e a w):Q e a w:=by
 cases e<;>first|exact h|exact h a rfl rfl
theorem td {id:Nat} {a:Act} {w:World} {l:List Oper} (ord:List (Nat×Bool)) (i:I) (hm:P.follows .mixedOrders=true) (hs:Region.noSelect l.toArray=true) (hl:ord.length=l.length)
 (hB:Region.mixB .any l.toArray ord (Array.replicate l.length false)=true) (hC:Cl i {w with drawn:=w.drawn+1}) (h:wpMix P l.toArray Q Cl (pickL l ord) a i): (Code.region id l.toArray true).wp P Q a w:=by
 refine Code.wp_mono (λe a w h=>tH h) (wp_region_any hm ?_)
 have:=sK _ _ a i _ hC (mq (md:=.any) hs ord _ a i hB h)
 rw[hl] at this
 simpa using this
end
def Cla (w0:World) (M:Mem) (Hr:List Ent) (i:Mem×List Ent) (w:World):Prop:=M.le i.1∧Hp w0 i.1 (i.2++Hr) w
section
variable {P:Program} {ops:Array Oper} {n:Nat} {Q:Exit→Act→World→Prop} {L:Fr} {a:Act} {w0 w:World} {M:Mem} {Hr:List Ent} {i:Mem×List Ent}
theorem Cla.hp (h:Cla w0 M Hr i w):Hp w0 M Hr w:=by
 obtain⟨h1,h2⟩:=h
 have:Hp w0 i.1 Hr w:=by
  have:=h2.dropN i.2.length
  simpa using this
 exact this.less h1
theorem R_mix {id:Nat} {l:List Oper} {E:List Ent} (ord:List (Nat×Bool)) (hp:Hp w0 M (E++Hr) w) (hm:P.follows .mixedOrders=true) (hs:Region.noSelect l.toArray=true) (hl:ord.length=l.length)
 (hB:Region.mixB .any l.toArray ord (Array.replicate l.length false)=true) (h:wpMix P l.toArray Q (Cla w0 M Hr) (pickL l ord) a (M,E)): (Code.region id l.toArray true).wp P Q a w:=
 td ord (M,E) hm hs hl hB ⟨Mem.le_refl M,hp.drew⟩ h
theorem bG {o:Oper} {rest:List (Bool×Oper)} {v:Value} {d:Nat} (hf:Frm n L a dd) (hw:bi ops L o=some true) (hr:bW L o=true) (hd:o.dst=some d) (hdn:Nat.blt d n=true)
 (hx: ∀w,Hp w0 M Hr w→(execOp (ev L) o).run P w=.ok (.value v) w) (hk: ∀a',Frm n ((d,v)::L) a' dd→wpMix P ops Q (Cla w0 M Hr) rest a' i):wpMix P ops Q (Cla w0 M Hr) ((true,o)::rest) a i:=by
 refine⟨v,.inl ⟨hf.wanted hw,λj w hC=>?_⟩,?_⟩
 ·unfold Oper.quietAt
  rw[hf.exec hr,hx w hC.hp]
  exact⟨rfl,rfl⟩
 rw[hd];exact hk _ (hf.put (by simpa [Nat.blt_eq] using hdn) v)
theorem M_not {o:Oper} {rest:List (Bool×Oper)} {d:Nat} (hf:Frm n L a dd) (hw:bi ops L o=some false) (hd:o.dst=some d) (hdn:Nat.blt d n=true)
 (hk: ∀a',Frm n ((d,undef)::L) a' dd→wpMix P ops Q (Cla w0 M Hr) rest a' i):wpMix P ops Q (Cla w0 M Hr) ((true,o)::rest) a i:=by
 refine⟨undef,.inr ⟨hf.wanted hw,rfl⟩,?_⟩
 rw[hd];exact hk _ (hf.put (by simpa [Nat.blt_eq] using hdn) undef)
theorem eR {o:Oper} {rest:List (Bool×Oper)} {d:Nat} {f:FuncId} {args:Lv} {v:Value} (hf:Frm n L a dd) (hw:bi ops L o=some true) (hr:bW L o=true)
 (hd:o.dst=some d) (hdn:Nat.blt d n=true) (hx: ∀w,(execOp (ev L) o).run P w=.ok (.enter f args.toArray) w) (hc:Ok P M f args λ_ u=>u=v)
 (hk: ∀a',Frm n ((d,v)::L) a' dd→wpMix P ops Q (Cla w0 M Hr) rest a' i):wpMix P ops Q (Cla w0 M Hr) ((true,o)::rest) a i:=by
 refine⟨v,.inl ⟨hf.wanted hw,λj w hC=>?_⟩,?_⟩
 ·unfold Oper.quietAt
  rw[hf.exec hr,hx w]
  refine⟨rfl,(hc j.1 hC.1 w0 _ w hC.2).mono λe w' ⟨u,he,M',hM,hp,hv⟩=>?_⟩
  exact⟨by rw[he,hv],hC.1,hp.less hM⟩
 rw[hd];exact hk _ (hf.put (by simpa [Nat.blt_eq] using hdn) v)
theorem bI {o:Oper} {rest:List (Bool×Oper)} {M1:Mem} {E:List Ent}
 (h: ∀w,Hp w0 M1 (E++Hr) w→wpList P ops (mixQ Q λa' w'=>∃i',Cla w0 M Hr i' w'∧wpMix P ops Q (Cla w0 M Hr) rest a' i') [o] a w):wpMix P ops Q (Cla w0 M Hr) ((false,o)::rest) a (M1,E):=
 λw hw=>h w hw.2
theorem M_go {rest:List (Bool×Oper)} {M1:Mem} {E:List Ent} (hM:M.le M1) (hp:Hp w0 M1 (E++Hr) w) (h:wpMix P ops Q (Cla w0 M Hr) rest a (M1,E)):
 mixQ Q (λa' w'=>∃i',Cla w0 M Hr i' w'∧wpMix P ops Q (Cla w0 M Hr) rest a' i') .normal a w:=⟨(M1,E),⟨hM,hp⟩,h⟩
theorem dx {l:List (Bool×Oper)} {M1:Mem} {E:List Ent} (hl:l=[]) (h: ∀w,Hp w0 M1 (E++Hr) w→Q .normal a w):wpMix P ops Q (Cla w0 M Hr) l a (M1,E):=by
 subst hl
 exact λw hw=>h w hw.2
end
end Go.Vc
namespace Go.Vc
open Go Go.RowKit
variable {dd:List Deferred}
section
variable {P:Program} {w w0:World} {M:Mem} {H:List Ent} {ρ:Operand→Value} {o:Oper}
theorem X_here {v:Value} (h: (execOp ρ o).run P w=.ok (.value v) w): (execOp ρ o).run P w=.ok (.value v) w:=h
theorem eqPtrNil {T e:TypeId} (ht:P.underlying T=some (.pointer e)) (q:Oa) (d:Nat) (w:World): (Op.equalIn (d+1) T (.pointer q) (.pointer none)).run P w=.ok q.isNone w:=by
 rcases q with _|b
 ·unfold Op.equalIn
  rw[Sem.run_bind,run_underlying ht];rfl
 unfold Op.equalIn
 rw[Sem.run_bind,run_underlying ht];rfl
theorem X_ptrNil {T t' e:TypeId} {x y:Operand} {q:Oa} (ho:o.op=.binOp .eql T x y t') (hx:ρ x=.pointer q) (hy:ρ y=.pointer none) (ht:P.underlying T=some (.pointer e)) (w:World):
 (execOp ρ o).run P w=.ok (.value (.bool q.isNone)) w:=by
 have h3:=eqPtrNil (P:=P) ht q 9999 w
 have h:binOp .eql T (.pointer q) (.pointer none)=(do pure (.bool (←Op.equal T (.pointer q) (.pointer none)))):=rfl
 have h2:eqGuard .eql T x y (.pointer q) (.pointer none)=pure ():=rfl
 unfold execOp
 simp only[ho,hx,hy,h,h2,Sem.run_bind,Sem.run_pure,Result.andThen_ok]
 have h4: (Op.equal T (.pointer q) (.pointer none)).run P w=.ok q.isNone w:=h3
 rw[h4];rfl
theorem X_ptrNeSame {T t' e:TypeId} {x y:Operand} {a:Addr} (ho:o.op=.binOp .neq T x y t') (hx:ρ x=.pointer (some a)) (hy:ρ y=.pointer (some a)) (ht:P.underlying T=some (.pointer e)) (hi: (P.info? e).isSome=true) (w:World):
 (execOp ρ o).run P w=.ok (.value (.bool false)) w:=by
 obtain⟨j,hj⟩:=Option.isSome_iff_exists.1 hi
 have h2:eqGuard .neq T x y (.pointer (some a)) (.pointer (some a))=pure ():=rfl
 unfold execOp
 simp only[ho,hx,hy,h2,Sem.run_bind,Sem.run_pure,Result.andThen_ok,Lib.run_neq_ptr_same w a ht hj]
def infoPos (P:Program) (t:TypeId):Bool:=match P.info? t with
 |some j=>Nat.blt 0 j.size
 |none=>false
theorem qT {t:TypeId} (h:infoPos P t=true): ∃j,P.info? t=some j∧j.size≠0:=by
 unfold infoPos at h
 cases hj:P.info? t with
 |none=>simp[hj] at h
 |some j=>
  simp only[hj,Nat.blt_eq] at h
  exact⟨j,rfl,by omega⟩
theorem X_toUnsafe {src dst t:TypeId} {x:Operand} {b off i:Nat} {cs:Array Value} {T:TypeId} {fr:Nat×Nat} (ho:o.op=.convert src dst x) (hx:ρ x=.pointer (some ⟨b,off,none⟩)) (hs:P.underlying src=some (.pointer t)) (hd:P.underlying dst=some .unsafePointer)
 (ht:infoPos P t=true) (hp:Hp w0 M H w) (he:H[i]? =some (.obj b (.cells cs T fr))) (hoff:off<cs.size): (execOp ρ o).run P w=.ok (.value (.pointer (some ⟨b,off,none⟩))) w:=by
 obtain⟨j,hj,hj0⟩:=qT ht
 have hsh:w.shape? b=some (T,cs.size):=by
  have:=hp.ownObj i he
  simp[World.shape?,this]
 have h:=Lib.run_to_unsafe (P:=P) w ⟨b,off,none⟩ hs hd hj hj0 hsh hoff
 unfold execOp
 simp only[ho,hx,Sem.run_bind,h,Sem.run_pure,Result.andThen_ok]
theorem X_fromUnsafe {src dst u:TypeId} {x:Operand} {b off i:Nat} {cs:Array Value} {T:TypeId} {fr:Nat×Nat} (ho:o.op=.convert src dst x) (hx:ρ x=.pointer (some ⟨b,off,none⟩)) (hs:P.underlying src=some .unsafePointer) (hd:P.underlying dst=some (.pointer u))
 (hu:infoPos P u=true) (hp:Hp w0 M H w) (he:H[i]? =some (.obj b (.cells cs T fr))) (hl:liesAt P P.depth T (cs.size / P.cellsOf T) off u 1=true): (execOp ρ o).run P w=.ok (.value (.pointer (some ⟨b,off,none⟩))) w:=by
 obtain⟨j,hj,_⟩:=qT hu
 have hsh:w.shape? b=some (T,cs.size):=by
  have:=hp.ownObj i he
  simp[World.shape?,this]
 have h:=Lib.run_from_unsafe (P:=P) w ⟨b,off,none⟩ hs hd hj hsh hl
 unfold execOp
 simp only[ho,hx,Sem.run_bind,h,Sem.run_pure,Result.andThen_ok]
end
section
variable {P:Program} {ops:Array Oper} {n:Nat} {Q:Exit→Act→World→Prop} {L:Fr} {a:Act} {w0 w:World} {M:Mem} {H:List Ent}
def DataPtr (v:Value) (k:Nat) (q:Oa):Prop:=k=0∨∃g cap,v=.slice (some ⟨g,0,none⟩) k cap∧q=some ⟨g,0,none⟩
theorem W_sliceData {o:Oper} {rest:List Oper} {d t e k sz:Nat} {x:Operand} {v:Value} {cs:Lv} (hf:Frm n L a dd) (hp:Hp w0 M (.row e sz v k cs::H) w) (hw:bi ops L o=some true) (hr:bW L o=true)
 (hd:o.dst=some d) (hdn:Nat.blt d n=true) (ho:o.op=.call {callee:=.builtin .unsafeSliceData,args:=#[x],argTypes:=#[t]}) (hx:ev L x=v) (ht: (match P.underlying o.type with|some (.pointer _)=>true|_=>false)=true)
 (hk: ∀q w',Hp w0 M (.row e sz v k cs::H) w'→DataPtr v k q→∀a',Frm n ((d,.pointer q)::L) a' dd→wpList P ops Q rest a' w'):wpList P ops Q (o::rest) a w:=by
 obtain⟨te,hte⟩: ∃te,P.underlying o.type=some (.pointer te):=by
  split at ht
  ·exact⟨_,by assumption⟩
  cases ht
 have run: ∀q w',(Builtin.unsafeSliceData_ #[t] o.type #[v]).run P w=.ok (.pointer q) w'→(execOp (ev L) o).run P w=.ok (.value (.pointer q)) w':=λq w' h=>by
  unfold execOp
  simp only[ho,resolve,invoke,builtin,Sem.run_bind,Sem.run_pure,Result.andThen_ok,List.map_toArray,List.map_cons,List.map_nil,hx,h]
 rcases hp.rowObj with⟨h1,h2,h3,h4⟩|⟨g,cap,cur,h1,h2,h3,h4,h5,h6,h7⟩
 ·subst h1;subst h2
  exact oz hf hw hr hd hdn (run none w (Lib.run_unsafeSliceData_nil _ _ _ _ _)) (hk none w hp (.inl rfl))
 by_cases hc:cap=0
 ·subst hc
  have hk0:k=0:=by omega
  have hsh:w.shape? g=some (e,cur.size):=by
   have:=h7.ownObj 0 rfl
   simp[World.shape?,this]
  subst h1
  exact oz hf hw hr hd hdn (run _ _ (Lib.run_unsafeSliceData_zero w _ _ te hte ⟨g,0,none⟩ k _ hsh)) (hk _ _ (hp.alloc _).drop (.inl hk0))
 subst h1
 exact oz hf hw hr hd hdn (run _ _ (Lib.run_unsafeSliceData_row w _ _ ⟨g,0,none⟩ k cap hc)) (hk _ _ hp (.inr ⟨g,cap,rfl,rfl⟩))
theorem Hp.freezeHead {b:Nat} {cs:Array Value} {T:TypeId} (h:Hp w0 M (.obj b (.cells cs T (0,0))::H) w) (k:Nat) (hk:k≠0):Hp w0 M (.obj b (.cells cs T (0,k))::H) (w.freeze ⟨b,0,none⟩ k):=by
 have hb:=(h.own _ List.mem_cons_self).2
 have h1: (w.freeze ⟨b,0,none⟩ k).os=w.os:=by unfold World.freeze;split<;>rfl
 have h2: (w.freeze ⟨b,0,none⟩ k).tape=w.tape:=by unfold World.freeze;split<;>rfl
 have h3: (w.freeze ⟨b,0,none⟩ k).output=w.output:=by unfold World.freeze;split<;>rfl
 refine h.write h1 h2 h3 (by simp[World.freeze,hk]) (by simp[World.freeze,hk,Array.getElem?_modify,hb]) (λj hj=>by simp[World.freeze,hk,Array.getElem?_modify,Ne.symm hj])
theorem rE {o:Oper} {rest:List Oper} {d t t' e:Nat} {x y:Operand} {q A:Oa} {cap:Nat} {v:Value} {cs:Lv} {l:Bs} (hv0:v=.slice A l.length cap) (hf:Frm n L a dd) (hp:Hp w0 M (.row e 1 v l.length cs::H) w) (hcs:ae M (l.map embB) cs) (hq:DataPtr v l.length q)
 (hw:bi ops L o=some true) (hr:bW L o=true) (hd:o.dst=some d) (hdn:Nat.blt d n=true) (ho:o.op=.call {callee:=.builtin .unsafeString,args:=#[x,y],argTypes:=#[t,t']})
 (hx:ev L x=.pointer q) (hy:ev L y=.int .i64 (l.length:Int)) (ht:P.underlying t=some (.pointer e)) (hce:Nat.beq (P.cellsOf e) 1=true)
 (hk': ∀M' w',M.le M'→Hp w0 M' H w'→Sli M' 1 embB A cap l→∀a',Frm n ((d,S l)::L) a' dd→wpList P ops Q rest a' w'):wpList P ops Q (o::rest) a w:=by
 have hk: ∀A cap M' w',M.le M'→v=.slice A l.length cap→Hp w0 M' H w'→Sli M' 1 embB A cap l→∀a',Frm n ((d,S l)::L) a' dd→wpList P ops Q rest a' w':=λA2 cap2 M' w' h1 h2 h3 h4=>by
  rw[hv0] at h2
  obtain⟨rfl,rfl⟩:A=A2∧cap=cap2:=by
   have:=Value.slice.inj h2
   exact⟨this.1,this.2.2⟩
  exact hk' M' w' h1 h3 h4
 have hce':=Nat.eq_of_beq_eq_true hce
 have run: ∀w',(Builtin.unsafeString_ #[t,t'] o.type #[.pointer q,.int .i64 (l.length:Int)]).run P w=.ok (S l) w'→(execOp (ev L) o).run P w=.ok (.value (S l)) w':=λw' h=>by
  unfold execOp
  simp only[ho,resolve,invoke,builtin,Sem.run_bind,Sem.run_pure,Result.andThen_ok,List.map_toArray,List.map_cons,List.map_nil,hx,hy,h]
 by_cases hl:l=[]
 ·subst hl
  obtain⟨A,cap,M',hv,hM,hp',hs⟩:=hp.rowSli (f:=embB) (xs:=[]) (λc=>szd_byte c) hcs
  exact oz hf hw hr hd hdn (run w (Lib.run_unsafeString_none w t t' o.type q)) (hk A cap M' w hM hv hp' hs)
 have hl0:l.length≠0:=by simpa using hl
 rcases hq with hq|⟨g',cap',hv',rfl⟩
 ·exact absurd hq hl0
 rcases hp.rowObj with⟨h1,h2,h3,h4⟩|⟨g,cap1,cur,h1,h2,h3,h4,h5,h6,h7⟩
 ·exact absurd h2 hl0
 rw[h1] at hv'
 obtain⟨rfl,rfl⟩:g'=g∧cap'=cap1:=by
  simp only[Value.slice.injEq,Option.some.injEq,Addr.mk.injEq,true_and,and_true] at hv'
  exact⟨hv'.1.symm,hv'.2.symm⟩
 have hsz:cap'≤cur.size:=by have:=h4.1;omega
 have hsz2:cur.size≤maxLen:=by have:=h4.2;omega
 have hobj:=h7.ownObj 0 rfl
 have hsh:w.shape? g'=some (e,cur.size):=by simp[World.shape?,hobj]
 have hcb:=hcs.bytes_eq
 have hcell: ∀j x,l[j]? =some x→w.cell? ((⟨g',0,none⟩:Addr).add j)=some (.int .u8 x.toNat):=λj x hx=>by
  have hj:j<l.length:=(List.getElem?_eq_some_iff.1 hx).1
  rw[Addr.add_lit,h7.ownCell 0 rfl,Nat.zero_add,←Array.getElem?_toList]
  have: (cur.toList.take (l.length*1))[j]? =some (.int .u8 x.toNat):=by
   rw[h5,hcb]
   simp only[eb,List.getElem?_map,hx]
   rfl
  rwa [List.getElem?_take_of_lt (by omega)] at this
 have hrun:=Lib.run_unsafeString_row (P:=P) w t t' o.type e ht hce' g' cur.size hsh l hl (by omega) (by unfold maxLen at hsz2;omega) hcell
 have h8:=h7.freezeHead l.length hl0
 obtain⟨k1,k2⟩:=h8.freeze
 refine oz hf hw hr hd hdn (run _ hrun) (hk (some ⟨g',0,none⟩) cap' _ _ k1 h1 k2 ⟨h2,(λe=>by cases e),.inr ⟨_,rfl,ae.arr (dv λc=>szd_byte c) (ae.mono k1 _ _ hcs) λj u hu=>?_⟩⟩)
 rw[Addr.add_lit,lu,←Array.getElem?_toList,Nat.zero_add]
 have hj:j<l.length*1:=h6▸ (List.getElem?_eq_some_iff.1 hu).1
 rw[←h5,List.getElem?_take_of_lt hj] at hu
 exact hu
end
end Go.Vc
namespace Go.Vc
open Go Go.RowKit
variable {dd:List Deferred}
section
variable {P:Program} {w w' w0:World} {M M':Mem} {H:List Ent}
theorem Hp.newer (hp:Hp w0 M H w) (h:Below w.heap.size w w'):Hp w0 M H w':=by
 have hb: ∀k,k<w.heap.size→w'.heap[k]? =w.heap[k]? :=h.block
 refine⟨⟨h.os.trans hp.below.os,h.tape.trans hp.below.tape,h.output.trans hp.below.output,Nat.le_trans hp.below.size h.size,λk hk=>?_⟩,λb o hm=>?_,λe he=>?_,hp.apart,hp.free⟩
 ·rw[hb k (by have:=hp.below.size;omega)]
  exact hp.below.block k hk
 ·have:=hp.mem b o hm
  rw[hb b (kA this)]
  exact this
 exact Ent.owns_keep (hp.own e he) λb hb'=>hb b (Ent.blk_lt (hp.own e he) hb').2
theorem Ok.ofBelow {f:FuncId} {args:Lv} {v:Value} (h: ∀M2 w0 H w,M.le M2→Hp w0 M2 H w→Calls P f args.toArray w λe w'=>e=.returned v∧Below w.heap.size w w'):Ok P M f args λ_ u=>u=v:=
 λM2 hM w0 H w hp=>(h M2 w0 H w hM hp).mono λ_ _ ⟨h1,h2⟩=>⟨v,h1,M2,Mem.le_refl _,hp.newer h2,rfl⟩
theorem Ok.ofDrew {f:FuncId} {args:Lv} {v:Value} (h: ∀M2 w0 H w,M.le M2→Hp w0 M2 H w→Calls P f args.toArray w λe w'=>e=.returned v∧∃n,w'=w.drewN n):Ok P M f args λ_ u=>u=v:=
 λM2 hM w0 H w hp=>(h M2 w0 H w hM hp).mono λ_ _ ⟨h1,n,h2⟩=>⟨v,h1,M2,Mem.le_refl _,h2▸hp.drewN n,rfl⟩
def Tabs (g3 g4:Nat) (M:Mem):Prop:=
 (∀c,c<256→M.cell? ⟨g3,c,none⟩=some (.int .u8 (Lib.firstT c)))∧
 (∀i,i<16→M.cell? ⟨g4,2*i,none⟩=some (.int .u8 (Lib.accLo i))∧M.cell? ⟨g4,2*i+1,none⟩=some (.int .u8 (Lib.accHi i)))
theorem Tabs.mono {g3 g4:Nat} (h:Tabs g3 g4 M) (hM:M.le M'):Tabs g3 g4 M':=⟨λc hc=>hM.cell (h.1 c hc),λi hi=>⟨hM.cell (h.2 i hi).1,hM.cell (h.2 i hi).2⟩⟩
theorem Tabs.at {g3 g4:Nat} (h:Tabs g3 g4 M) (hp:Hp w0 M H w):Lib.Utf8Tabs g3 g4 w:=⟨λc hc=>hp.cell (h.1 c hc),λi hi=>⟨hp.cell (h.2 i hi).1,hp.cell (h.2 i hi).2⟩⟩
def IntVar (g:Nat) (M:Mem):Prop:=∃m,M.cell? ⟨g,0,none⟩=some (.int .i64 m)
theorem IntVar.mono {g:Nat} (h:IntVar g M) (hM:M.le M'):IntVar g M':=h.imp λ_ h=>hM.cell h
end
end Go.Vc
namespace Go.Vc
open Go Go.RowKit
variable {dd:List Deferred}
section
variable {P:Program} {ops:Array Oper} {n:Nat} {Q:Exit→Act→World→Prop} {L:Fr} {a:Act} {w0 w:World} {M:Mem} {H:List Ent}
theorem run_nextS_go (k:Nat) (s:ByteArray) (pos:Nat) (ty:TypeId) (hk:w.heap[k]? =some (.stringIter s pos)) (h:pos<s.size):
 (Instr.next (.pointer (some ⟨k,0,none⟩)) true ty).run P w=.ok (.tuple #[.bool true,.int .i64 pos,.int .i32 (Utf8.decode s pos).1]) {w with heap:=w.heap.setIfInBounds k (.stringIter s (pos+ (Utf8.decode s pos).2))}:=by
 simp only[Instr.next,getObj,setObj,Sem.run_bind,Sem.run,hk,Result.andThen,h,if_true]
 simp[goInt]
theorem ta (k:Nat) (s:ByteArray) (pos:Nat) (ty:TypeId) (hk:w.heap[k]? =some (.stringIter s pos)) (h: ¬pos<s.size):
 (Instr.next (.pointer (some ⟨k,0,none⟩)) true ty).run P w=.ok (.tuple #[.bool false]) w:=by
 simp[Instr.next,getObj,Sem.run,hk,h]
theorem W_rangeS {o:Oper} {rest:List Oper} {d t:Nat} {x:Operand} {l:Bs} (hf:Frm n L a dd) (hp:Hp w0 M H w) (hw:bi ops L o=some true) (hr:bW L o=true)
 (hd:o.dst=some d) (hdn:Nat.blt d n=true) (ho:o.op=.range t x) (hx:ev L x=S l) (ht:P.underlying t=some .string)
 (hk: ∀b w',Hp w0 M (.obj b (.stringIter (mkS l) 0)::H) w'→∀a',Frm n ((d,.pointer (some ⟨b,0,none⟩))::L) a' dd→wpList P ops Q rest a' w'):wpList P ops Q (o::rest) a w:=by
 have hx': (execOp (ev L) o).run P w=.ok (.value (.pointer (some ⟨w.heap.size,0,none⟩))) (w.alloc (.stringIter (mkS l) 0)):=by
  unfold execOp
  simp only[ho,hx,S,Instr.range,Sem.run_bind,run_underlying ht,Result.andThen_ok]
  rfl
 exact oz hf hw hr hd hdn hx' (hk _ _ (hp.alloc _))
theorem W_nextS_end {o:Oper} {rest:List Oper} {d b p:Nat} {x:Operand} {l:Bs} (hf:Frm n L a dd) (hp:Hp w0 M (.obj b (.stringIter (mkS l) p)::H) w) (hw:bi ops L o=some true) (hr:bW L o=true)
 (hd:o.dst=some d) (hdn:Nat.blt d n=true) (ho:o.op=.next x true) (hx:ev L x=.pointer (some ⟨b,0,none⟩)) (h: ¬p<l.length)
 (hk: ∀w',Hp w0 M (.obj b (.stringIter (mkS l) p)::H) w'→∀a',Frm n ((d,.tuple #[.bool false])::L) a' dd→wpList P ops Q rest a' w'):wpList P ops Q (o::rest) a w:=by
 have h1:=ta (P:=P) (w:=w) b (mkS l) p o.type (hp.ownObj 0 rfl) h
 have hx': (execOp (ev L) o).run P w=.ok (.value (.tuple #[.bool false])) w:=by
  unfold execOp
  simp only[ho,hx,Sem.run_bind,h1,Result.andThen_ok]
  rfl
 exact oz hf hw hr hd hdn hx' (hk _ hp)
theorem W_nextS_go {o:Oper} {rest:List Oper} {d b p:Nat} {x:Operand} {l:Bs} {v:Nat×Nat} (hf:Frm n L a dd) (hp:Hp w0 M (.obj b (.stringIter (mkS l) p)::H) w) (hw:bi ops L o=some true) (hr:bW L o=true)
 (hd:o.dst=some d) (hdn:Nat.blt d n=true) (ho:o.op=.next x true) (hx:ev L x=.pointer (some ⟨b,0,none⟩)) (h:p<l.length) (hv:some (Lib.decodeL (l.drop p))=some v)
 (hk: ∀w',Hp w0 M (.obj b (.stringIter (mkS l) (p+v.2))::H) w'→∀a',Frm n ((d,.tuple #[.bool true,.int .i64 ((p:Nat):Int),.int .i32 ((v.1:Nat):Int)])::L) a' dd→wpList P ops Q rest a' w'):wpList P ops Q (o::rest) a w:=by
 have h1:=run_nextS_go (P:=P) (w:=w) b (mkS l) p o.type (hp.ownObj 0 rfl) h
 have h2:Utf8.decode (mkS l) p=v:=by
  rw[←Lib.decodeL_drop]
  exact Option.some.inj hv
 rw[h2] at h1
 have hx': (execOp (ev L) o).run P w=.ok (.value (.tuple #[.bool true,.int .i64 ((p:Nat):Int),.int .i32 ((v.1:Nat):Int)])) {w with heap:=w.heap.setIfInBounds b (.stringIter (mkS l) (p+v.2))}:=by
  unfold execOp
  simp only[ho,hx,Sem.run_bind,h1,Result.andThen_ok]
  rfl
 refine oz hf hw hr hd hdn hx' (hk _ ?_)
 exact hp.put
end
section
variable {α:Type} {P:Program} {ops:Array Oper} {n:Nat} {Q:Exit→Act→World→Prop} {L:Fr} {a:Act} {w0 w:World} {M:Mem} {H:List Ent} {sz:Nat} {f:α→Dat}
theorem take_patch {β:Type} (cl vs:List β) (a s N:Nat) (hv:vs.length=s) (h1:a+s≤N) (h2:N≤cl.length): (cl.take a++vs++cl.drop (a+s)).take N=(cl.take N).take a++(vs++(cl.take N).drop (a+s)):=by
 have hl: (cl.take a).length=a:=by rw[List.length_take];omega
 have e1: (cl.take a).take N=cl.take a:=List.take_of_length_le (by omega)
 have e2:vs.take (N-a)=vs:=List.take_of_length_le (by omega)
 have e3: (cl.take N).take a=cl.take a:=by rw[List.take_take,Nat.min_eq_left (by omega)]
 have e4: (cl.drop (a+s)).take (N-a-s)=(cl.take N).drop (a+s):=by rw[List.drop_take,Nat.sub_sub]
 rw[List.append_assoc,List.take_append,List.take_append,hl,hv,e1,e2,e3,e4]
theorem W_rowstoreN {o:Oper} {rest:List Oper} {t e:TypeId} {x y:Operand} {it:Int} {m cap g:Nat} {v0:Value} {d:List α} {xv x0:α} {cs vs:Lv} (hf:Frm n L a dd) (hp:Hp w0 M (.row e sz v0 d.length cs::H) w) (hv0:v0=.slice (some ⟨g,0,none⟩) m cap)
 (hw:bi ops L o=some true) (hr:bW L o=true) (hd:o.dst=none) (ho:o.op=.store t x y) (hx:ev L x=.pointer (some ((⟨g,0,none⟩:Addr).add (it.toNat*sz)))) (hy:ev L y=.agg vs.toArray) (hv:Rep M (f xv) vs) (hs:szIs P t sz=true) (hfs: ∀x,Szd sz (f x)) (hg:aB d it=some x0)
 (hcs:ae M (d.map f) cs) (hk: ∀cs' w',Hp w0 M (.row e sz v0 (d.set it.toNat xv).length cs'::H) w'→ae M ((d.set it.toNat xv).map f) cs'→∀a',Frm n L a' dd→wpList P ops Q rest a' w'):wpList P ops Q (o::rest) a w:=by
 have hlen:=ae.len (dv hfs) hcs
 rw[List.length_map] at hlen
 have hvl:vs.length=sz:=hfs xv M vs hv
 have hlt:it.toNat<d.length:=by have:=eV hg;have:=eW hg;omega
 have hmul: (it.toNat+1)*sz≤d.length*sz:=Nat.mul_le_mul_right _ hlt
 rw[Nat.add_mul,Nat.one_mul] at hmul
 have hseq:ae M ((d.set it.toNat xv).map f) (cs.take (it.toNat*sz)++(vs++cs.drop ((it.toNat+1)*sz))):=by
  rw[List.set_eq_take_append_cons_drop,if_pos hlt,List.map_append,List.map_cons]
  refine ae.append ?_ ⟨vs,_,rfl,hv,?_⟩
  ·rw[List.map_take]
   exact ae.takeD _ (dv hfs) hcs
  rw[List.map_drop]
  exact ae.dropD _ (dv hfs) hcs
 rcases hp.rowObj with⟨h1,h2,h3,h4⟩|⟨g',cap',cur,h1,h2,h3,h4,h5,h6,h7⟩
 ·rw[h1] at hv0;cases hv0
 rw[h1] at hv0;cases hv0
 have hcm:d.length*sz≤cap*sz:=Nat.mul_le_mul_right _ h2
 rw[Addr.add_lit,Nat.zero_add] at hx
 have h8:=h7.setCells vs (it.toNat*sz)
 have hrun:=run_storeCells_cells (P:=P) g (it.toNat*sz) vs 0 w
  (λi hi=>by
   rw[Nat.add_zero,h7.ownCell 0 rfl]
   simp
   omega)
  (λi _=>by
   rw[Nat.add_zero]
   exact h7.ownFrozen 0 rfl _ (by omega)) (Rep.one _ _ hv)
 rw[Nat.add_zero] at hrun
 refine W_skip hf hw hr hd ?_ (hk (cs.take (it.toNat*sz)++(vs++cs.drop ((it.toNat+1)*sz))) (w.setCells g (it.toNat*sz) vs) ?_ hseq)
 ·unfold execOp
  simp only[ho,hx,hy,Instr.storeAt,Instr.sureAddr,Sem.run_bind,Sem.run_pure,Result.andThen_ok,storeVar,Value.cells,ja hs]
  simp only[List.size_toArray,hvl,ne_eq,not_true_eq_false,if_false]
  simpa using congrArg (λr=>Result.andThen r _) hrun
 rw[List.length_set,h1]
 refine h8.objRow h2 h3 (by rw[qD];exact h4) ?_ ?_
 ·rw[ox _ _ _ (by omega),hvl,←h5]
  have e1:it.toNat*sz+sz=(it.toNat+1)*sz:=by rw[Nat.add_mul,Nat.one_mul]
  rw[e1,List.append_assoc]
  rw[←List.append_assoc,←e1]
  exact take_patch _ _ _ _ _ hvl (by omega) (by have h10:cur.toList.length=cur.size:=Array.length_toList;rw[h10];exact Nat.le_trans hcm h4.1)
 rw[List.length_append,List.length_append,List.length_take,List.length_drop,h6,hvl,Nat.min_eq_left (by omega)]
 have h9: (it.toNat+1)*sz=it.toNat*sz+sz:=by rw[Nat.add_mul,Nat.one_mul]
 omega
end
end Go.Vc
namespace Go.Vc
open Go Go.RowKit
variable {dd:List Deferred}
inductive Plan
 |done
 |quiet (k:Nat) (p:Plan)
 |alt (k:Nat) (p q:Plan)
 |none
def pickN (l:List Oper):List Nat→List Oper
 |[]=>[]
 |k::r=>match atL l k with
  |some o=>o::pickN l r
  |none=>pickN l r
def barB (md:Region.Mode) (ops:Array Oper) (listed:Array Bool):Bool:=(Region.ready md ops listed).all λj=>match ops[j]? with
 |some o=>(List.range listed.size).all λk=> !listed.getD k false||o.after.toList.any λe=>Region.binds md e&&Nat.beq e.on k
 |none=>true
def tailB (md:Region.Mode) (ops:Array Oper):List Nat→Array Bool→Bool
 |[],listed=>(Region.ready md ops listed).isEmpty
 |k::r,listed=>decide (k<ops.size)&&decide (Region.ready md ops listed=[k])&&tailB md ops r (listed.setIfInBounds k true)
section
variable {P:Program} {ops:Array Oper} {md:Region.Mode} {Q:Exit→Act→World→Prop} {I:Type} {Cl:I→World→Prop}
def wpPlan (P:Program) (l:List Oper) (ks:List Nat) (Q:Exit→Act→World→Prop) (Cl:I→World→Prop):Plan→Act→I→Prop
 |.done,a,i=>∀w,Cl i w→wpList P l.toArray (noPan Q) (pickN l ks) a w
 |.quiet k p,a,i=>match atL l k with
  |some o=>∃v,YieldsU P l.toArray Cl o v a∧wpPlan P l ks Q Cl p (a.put o.dst v) i
  |.none=>False
 |.alt k p q,a,i=>(match atL l k with
  |some o=>∀w,Cl i w→wpList P l.toArray (mixQ Q λa' w'=>∃i',Cl i' w'∧wpPlan P l ks Q Cl p a' i') [o] a w
  |.none=>False)∧wpPlan P l ks Q Cl q a i
 |.none,_,_=>True
def Plan.ks:Plan→List Nat
 |.alt k _ q=>k::q.ks
 |_=>[]
def Plan.ok (md:Region.Mode) (ops:Array Oper) (ks:List Nat):Plan→Bool→Nat→Array Bool→Bool
 |.done,b,n,listed=>b&&barB md ops listed&&tailB md ops ks listed&&Nat.beq n 0
 |.quiet k p,b,n,listed=>match n with
  |0=>false
  |n+1=>b&&decide (k<ops.size)&& (Region.ready md ops listed).contains k&&Region.free md ops listed k&&p.ok md ops ks true n (listed.setIfInBounds k true)
 |.alt k p q,b,n,listed=>match n with
  |0=>false
  |m+1=>decide (k<ops.size)&& (!b||decide (Region.ready md ops listed=k::q.ks))&&p.ok md ops ks true m (listed.setIfInBounds k true)&&q.ok md ops ks false (m+1) listed
 |.none,b,_,_=> !b
theorem oM {l:List Oper}: ∀ (ks:List Nat) (listed:Array Bool) (a:Act) (w:World),tailB md l.toArray ks listed=true→wpList P l.toArray (noPan Q) (pickN l ks) a w→wpAny P md l.toArray (noPan Q) ks.length listed a w
 |[],listed,a,w,hB,h=>⟨by simpa [tailB] using hB,h⟩
 |k::r,listed,a,w,hB,h=>by
  simp only[tailB,Bool.and_eq_true,decide_eq_true_eq] at hB
  obtain⟨⟨hk,hr⟩,hB'⟩:=hB
  have hk':k<l.length:=by simpa using hk
  have h0:l.toArray[k]? =some l[k]:=by simp[hk']
  have e:atL l k=some l[k]:=by rw[rH];simp[hk']
  refine⟨λh2=>(by rw[h2] at hr;cases hr),λj hj=>?_⟩
  rw[hr] at hj
  obtain rfl:j=k:=by simpa using hj
  simp only[pickN,e,wpList] at h
  unfold wpOp
  simp only[h0]
  have mono: ∀a' w',wpList P l.toArray (noPan Q) (pickN l r) a' w'→wpAny P md l.toArray (noPan Q) r.length (listed.setIfInBounds j true) a' w':=λa' w' h=>oM r _ a' w' hB' h
  split
  ·rename_i hw'
   simp only[hw',if_true] at h
   rcases h with h|h
   ·exact .inl (Oper.wp_mono mono h)
   exact .inr h
  rename_i hw'
  simp only[hw'] at h
  exact mono _ _ h
def wpAnyT (P:Program) (md:Region.Mode) (ops:Array Oper) (m:Nat) (Q:Exit→Act→World→Prop) (Cl:I→World→Prop):Nat→Array Bool→Act→I→Prop
 |0,listed,a,i=>barB md ops listed=true∧∀w,Cl i w→wpAny P md ops (noPan Q) m listed a w
 |f+1,listed,a,i=>Region.ready md ops listed≠ []∧
  ∀w,Cl i w→∀j∈Region.ready md ops listed,wpOp P ops (noPan Q) j (λa' w'=>∃i',Cl i' w'∧wpAnyT P md ops m Q Cl f (listed.setIfInBounds j true) a' i') a w
theorem sM {m:Nat}: ∀ (f:Nat) (listed:Array Bool) (a:Act) (i:I) (w:World),Cl i w→wpAnyT P md ops m Q Cl f listed a i→wpAny P md ops (noPan Q) (f+m) listed a w
 |0,_,_,_,w,hw,h=>by rw[Nat.zero_add];exact h.2 w hw
 |f+1,_,_,_,w,hw,h=>by
  rw[Nat.succ_add]
  exact⟨λh0=>absurd h0 h.1,λj hj=>wpOp_mono (λa' w' ⟨i',h1,h2⟩=>sM f _ a' i' w' h1 h2) (h.2 w hw j hj)⟩
theorem wpAnyT_first {m k:Nat} {ok:Oper} {v:Value} (hk:ops[k]? =some ok) (hsel: ∀ (j:Nat) (o:Oper) cs b,ops[j]? =some o→o.op≠ .select cs b):
 ∀ (f:Nat) (listed:Array Bool) (a:Act) (i:I),
  (∀j oj,ops[j]? =some oj→j≠k→listed.getD j true=false→(∀e∈oj.after,Region.binds md e=true→e.on≠k)→ok.apart ops oj=true)→
  k∈Region.ready md ops listed→YieldsU P ops Cl ok v a→
  wpAnyT P md ops m Q Cl f (listed.setIfInBounds k true) (a.put ok.dst v) i→wpAnyT P md ops m Q Cl (f+1) listed a i:=by
 intro f
 induction f with
 |zero=>
  intro listed a i _ hr hy H
  refine⟨λh=>(by rw[h] at hr;cases hr),λw hw j hj=>?_⟩
  by_cases hji:j=k
  ·subst hji;exact hy.wpOp hk hw λw' hw'=>⟨i,hw',H⟩
  exfalso
  have hj2:=ready_mono hj hji
  have hb:=H.1
  obtain⟨hjun,oj,hoj,hall⟩:=mem_ready.1 hj
  have h1:=List.all_eq_true.1 hb j hj2
  simp only[hoj] at h1
  have hun:=(mem_ready.1 hr).1
  have hks:k<listed.size:=by
   rcases Nat.lt_or_ge k listed.size with h'|h'
   ·exact h'
   simp[Array.getElem?_eq_none h'] at hun
  have h2:=List.all_eq_true.1 h1 k (by simp[hks])
  have h3: (listed.setIfInBounds k true).getD k false=true:=by simp[hks]
  rw[h3] at h2
  obtain⟨e,he,h4⟩:=List.any_eq_true.1 (by simpa using h2:oj.after.toList.any (λe=>Region.binds md e&&Nat.beq e.on k)=true)
  simp only[Bool.and_eq_true] at h4
  have h5:=hall e (Array.mem_toList_iff.1 he) h4.1
  have h6:e.on=k:=Nat.eq_of_beq_eq_true h4.2
  rw[h6] at h5
  simp[hks] at hun h5
  rw[hun] at h5;cases h5
 |succ f ih=>
  intro listed a i hfree hr hy H
  refine⟨λh=>(by rw[h] at hr;cases hr),λw hw j hj=>?_⟩
  by_cases hji:j=k
  ·subst hji;exact hy.wpOp hk hw λw' hw'=>⟨i,hw',H⟩
  have h1:=H.2 w hw j (ready_mono hj hji)
  obtain⟨hjun,oj,hoj,hall⟩:=mem_ready.1 hj
  have hnot: ∀e∈oj.after,Region.binds md e=true→e.on≠k:=λe he hb heq=>by
   have h1:=hall e he hb
   have h0:=(mem_ready.1 hr).1
   rw[heq] at h1
   rcases Nat.lt_or_ge k listed.size with h'|h'
   ·simp[h'] at h0 h1;rw[h0] at h1;cases h1
   simp[Array.getElem?_eq_none h'] at h1
  have h2:=tS hoj (hfree j oj hoj hji hjun hnot) (λcs b=>hsel k ok cs b hk) (λcs b=>hsel j oj cs b hoj) hy h1
  have hfree': ∀m om,ops[m]? =some om→m≠k→(listed.setIfInBounds j true).getD m true=false→
   (∀e∈om.after,Region.binds md e=true→e.on≠k)→ok.apart ops om=true:=λm om hm hmk hun hno=>by
   refine hfree m om hm hmk ?_ hno
   by_cases hjm:j=m
   ·subst hjm;exact hjun
   rw[Go.getD_set_ne true hjm] at hun;exact hun
  refine wpOp_mono (λa' w' ⟨h3,i',h4,h5⟩=>⟨i',h4,ih (listed.setIfInBounds j true) a' i' hfree' (ready_mono hr (Ne.symm hji)) h3 ?_⟩) h2
  rw[Array.setIfInBounds_comm _ _ hji]
  exact h5
theorem alts_of {l:List Oper} {ks:List Nat} {n:Nat} {listed:Array Bool} {a:Act} {i:I}
 (ih: ∀ (p:Plan) (listed:Array Bool) (a:Act) (i:I),Plan.ok md l.toArray ks p true n listed=true→wpPlan P l ks Q Cl p a i→wpAnyT P md l.toArray ks.length Q Cl n listed a i):
 ∀ (q:Plan),Plan.ok md l.toArray ks q false (n+1) listed=true→wpPlan P l ks Q Cl q a i→∀w,Cl i w→∀j∈q.ks,
  wpOp P l.toArray (noPan Q) j (λa' w'=>∃i',Cl i' w'∧wpAnyT P md l.toArray ks.length Q Cl n (listed.setIfInBounds j true) a' i') a w
 |.done,_,_,_,_,_,hj=>by cases hj
 |.quiet _ _,_,_,_,_,_,hj=>by cases hj
 |.none,_,_,_,_,_,hj=>by cases hj
 |.alt k p q,hB,h,w,hw,j,hj=>by
  simp only[Plan.ok,Bool.and_eq_true,decide_eq_true_eq] at hB
  obtain⟨⟨⟨hk,_⟩,hp⟩,hq⟩:=hB
  obtain⟨h1,h2⟩:=h
  rcases List.mem_cons.1 hj with rfl|hj
  ·have hk':j<l.length:=by simpa using hk
   have h0:l.toArray[j]? =some l[j]:=by simp[hk']
   have e:atL l j=some l[j]:=by rw[rH];simp[hk']
   simp only[e] at h1
   have h3:=h1 w hw
   simp only[wpList] at h3
   unfold wpOp
   simp only[h0]
   have mono: ∀a' w',(mixQ Q (λa' w'=>∃i',Cl i' w'∧wpPlan P l ks Q Cl p a' i') .normal a' w')→∃i',Cl i' w'∧wpAnyT P md l.toArray ks.length Q Cl n (listed.setIfInBounds j true) a' i':=
    λa' w' ⟨i',h4,h5⟩=>⟨i',h4,ih p _ _ _ hp h5⟩
   split
   ·rename_i hw'
    simp only[hw',if_true] at h3
    rcases h3 with h3|⟨h3,h4⟩
    ·exact .inl (Oper.wp_mono mono (Oper.wp_mixQ h3))
    exact .inr ⟨h3,pJ h4⟩
   rename_i hw'
   simp only[hw'] at h3
   exact mono _ _ h3
  exact alts_of ih q hq h2 w hw j hj
theorem lP {l:List Oper} {ks:List Nat} (hs:Region.noSelect l.toArray=true): ∀ (n:Nat) (p:Plan) (listed:Array Bool) (a:Act) (i:I),
 Plan.ok md l.toArray ks p true n listed=true→wpPlan P l ks Q Cl p a i→wpAnyT P md l.toArray ks.length Q Cl n listed a i
 |0,p,listed,a,i,hB,h=>by
  cases p with
  |done=>
   simp only[Plan.ok,Bool.and_eq_true] at hB
   exact⟨hB.1.1.2,λw hw=>oM ks listed a w hB.1.2 (h w hw)⟩
  |quiet k p=>simp[Plan.ok] at hB
  |alt k p q=>simp[Plan.ok] at hB
  |none=>simp[Plan.ok] at hB
 |n+1,p,listed,a,i,hB,h=>by
  cases p with
  |done=>simp[Plan.ok] at hB
  |none=>simp[Plan.ok] at hB
  |quiet k p=>
   simp only[Plan.ok,Bool.and_eq_true,decide_eq_true_eq] at hB
   obtain⟨⟨⟨⟨_,hk⟩,hr⟩,hf⟩,hB'⟩:=hB
   have hk':k<l.length:=by simpa using hk
   have h0:l.toArray[k]? =some l[k]:=by simp[hk']
   have e:atL l k=some l[k]:=by rw[rH];simp[hk']
   simp only[wpPlan,e] at h
   obtain⟨v,hy,hK⟩:=h
   exact wpAnyT_first h0 (Region.noSelect_spec hs) n listed a i (Region.free_spec h0 hf) (by simpa using hr) hy (lP hs n p _ _ _ hB' hK)
  |alt k p q=>
   have hB2:=hB
   simp only[Plan.ok,Bool.and_eq_true,nT,Bool.false_or,decide_eq_true_eq] at hB
   obtain⟨⟨⟨hk,hr⟩,hp⟩,hq⟩:=hB
   refine⟨λh2=>(by rw[h2] at hr;cases hr),λw hw j hj=>?_⟩
   refine alts_of (n:=n) (λp listed a i=>lP hs n p listed a i) (.alt k p q) ?_ h w hw j (by rw[hr] at hj;exact hj)
   simp only[Plan.ok,Bool.and_eq_true,nF,Bool.true_or,decide_eq_true_eq]
   exact⟨⟨⟨hk,trivial⟩,hp⟩,hq⟩
theorem sN {id:Nat} {a:Act} {w:World} {l:List Oper} {ks:List Nat} (pl:Plan) (i:I) (hm:P.follows .mixedOrders=true) (hs:Region.noSelect l.toArray=true)
 (hB: (Nat.ble ks.length l.length&&Plan.ok .any l.toArray ks pl true (l.length-ks.length) (Array.replicate l.length false))=true) (hC:Cl i {w with drawn:=w.drawn+1}) (h:wpPlan P l ks Q Cl pl a i): (Code.region id l.toArray true).wp P Q a w:=by
 refine Code.wp_mono (λe a w h=>tH h) (wp_region_any hm ?_)
 rw[Bool.and_eq_true] at hB
 have hle:=Nat.le_of_ble_eq_true hB.1
 have:=sM _ _ a i _ hC (lP (md:=.any) hs (l.length-ks.length) pl _ a i hB.2 h)
 rw[Nat.sub_add_cancel hle] at this
 simpa using this
end
section
variable {P:Program} {l:List Oper} {ks:List Nat} {n:Nat} {Q:Exit→Act→World→Prop} {L:Fr} {a:Act} {w0 w:World} {M:Mem} {Hr:List Ent} {i:Mem×List Ent}
theorem R_plan {id:Nat} {E:List Ent} (pl:Plan) (hp:Hp w0 M (E++Hr) w) (hm:P.follows .mixedOrders=true) (hs:Region.noSelect l.toArray=true)
 (hB: (Nat.ble ks.length l.length&&Plan.ok .any l.toArray ks pl true (l.length-ks.length) (Array.replicate l.length false))=true) (h:wpPlan P l ks Q (Cla w0 M Hr) pl a (M,E)): (Code.region id l.toArray true).wp P Q a w:=
 sN pl (M,E) hm hs hB ⟨Mem.le_refl M,hp.drew⟩ h
theorem N_eq {k:Nat} {p:Plan} {o:Oper} (ho:atL l k=some o) {v:Value} {d:Nat} (hf:Frm n L a dd) (hw:bi l.toArray L o=some true) (hr:bW L o=true) (hd:o.dst=some d) (hdn:Nat.blt d n=true)
 (hx: ∀w,Hp w0 M Hr w→(execOp (ev L) o).run P w=.ok (.value v) w) (hk: ∀a',Frm n ((d,v)::L) a' dd→wpPlan P l ks Q (Cla w0 M Hr) p a' i):wpPlan P l ks Q (Cla w0 M Hr) (.quiet k p) a i:=by
 simp only[wpPlan,ho]
 refine⟨v,.inl ⟨hf.wanted hw,λj w hC=>?_⟩,?_⟩
 ·unfold Oper.quietAt
  rw[hf.exec hr,hx w hC.hp]
  exact⟨rfl,rfl⟩
 rw[hd];exact hk _ (hf.put (by simpa [Nat.blt_eq] using hdn) v)
theorem Y1 {k:Nat} {p:Plan} {o:Oper} (ho:atL l k=some o) {v:Value} {d:Nat} (hf:Frm n L a dd) (hd:o.dst=some d) (hdn:Nat.blt d n=true) (hx: ∀w,Hp w0 M Hr w→(execOp (ev L) o).run P w=.ok (.value v) w) (hk: ∀a',Frm n ((d,v)::L) a' dd→wpPlan P l ks Q (Cla w0 M Hr) p a' i) (hw:bi l.toArray L o=some true:=by kernel_rfl) (hr:bW L o=true:=by kernel_rfl):wpPlan P l ks Q (Cla w0 M Hr) (.quiet k p) a i:=N_eq ho hf hw hr hd hdn hx hk
theorem oD {k:Nat} {p:Plan} {o:Oper} (ho:atL l k=some o) {d:Nat} {f:FuncId} {args:Lv} {v:Value} (hf:Frm n L a dd) (hw:bi l.toArray L o=some true) (hr:bW L o=true)
 (hd:o.dst=some d) (hdn:Nat.blt d n=true) (hx: ∀w,(execOp (ev L) o).run P w=.ok (.enter f args.toArray) w) (hc:Ok P M f args λ_ u=>u=v)
 (hk: ∀a',Frm n ((d,v)::L) a' dd→wpPlan P l ks Q (Cla w0 M Hr) p a' i):wpPlan P l ks Q (Cla w0 M Hr) (.quiet k p) a i:=by
 simp only[wpPlan,ho]
 refine⟨v,.inl ⟨hf.wanted hw,λj w hC=>?_⟩,?_⟩
 ·unfold Oper.quietAt
  rw[hf.exec hr,hx w]
  refine⟨rfl,(hc j.1 hC.1 w0 _ w hC.2).mono λe w' ⟨u,he,M',hM,hp,hv⟩=>?_⟩
  exact⟨by rw[he,hv],hC.1,hp.less hM⟩
 rw[hd];exact hk _ (hf.put (by simpa [Nat.blt_eq] using hdn) v)
theorem ao {k:Nat} {p q:Plan} {o:Oper} (ho:atL l k=some o) {M1:Mem} {E:List Ent}
 (h: ∀w,Hp w0 M1 (E++Hr) w→wpList P l.toArray (mixQ Q λa' w'=>∃i',Cla w0 M Hr i' w'∧wpPlan P l ks Q (Cla w0 M Hr) p a' i') [o] a w) (h2:wpPlan P l ks Q (Cla w0 M Hr) q a (M1,E)):wpPlan P l ks Q (Cla w0 M Hr) (.alt k p q) a (M1,E):=by
 simp only[wpPlan,ho]
 exact⟨λw hw=>h w hw.2,h2⟩
theorem al:wpPlan P l ks Q (Cla w0 M Hr) .none a i:=trivial
theorem dy {M1:Mem} {E:List Ent} (h: ∀w,Hp w0 M1 (E++Hr) w→Q .normal a w):wpPlan P l [] Q (Cla w0 M Hr) .done a (M1,E):=λw hw=>h w hw.2
theorem dp {M1:Mem} {E:List Ent} (h: ∀w,Hp w0 M1 (E++Hr) w→wpList P l.toArray (noPan Q) (pickN l ks) a w):wpPlan P l ks Q (Cla w0 M Hr) .done a (M1,E):=λw hw=>h w hw.2
theorem jD (h:Q .normal a w):noPan Q .normal a w:=h
end
end Go.Vc
end
section
namespace Go.Vc
open Go Go.RowKit
variable {dd:List Deferred}
def fen:Option Nat→Fence
 |none=>Fence.wide
 |some l=>Fence.wide.inRound l
section
variable {P:Program} {ops:Array Oper} {Q:Exit→Act→World→Prop} {ro:Option Nat} {a:Act} {w:World}
theorem tq: (fen ro).round=ro:=by cases ro<;>rfl
theorem fen_fn (f:FuncId): (fen ro).fn f:=by cases ro<;>trivial
theorem qq: (fen ro).depth.isSome=true→1≤0:=by cases ro<;>intro h<;>cases h
theorem calls_in {n:Nat} {f:FuncId} {args:Array Value} {R:Ending→World→Prop} (h:Calls P f args w R):CallsIn (fen ro) n P f args w R:=by
 have h1:CallsIn Fence.wide n P f args w R:=callsIn_wide.2 h
 cases ro with
 |none=>exact h1
 |some l=>exact h1
theorem rows_in {n:Nat} {row:String} {args:Array Value} {R:Value→World→Prop} (h:_root_.Go.Rows P row args w R):RowsIn (fen ro) n P row args w R:=by
 have h1:RowsIn Fence.wide n P row args w R:=λc cs _=>let ⟨v,w',r,s⟩:=h c cs; ⟨v,w',r,stepsIn_wide.2 s⟩
 cases ro with
 |none=>exact h1
 |some l=>exact h1
theorem op_in {o:Oper} {K K':Act→World→Prop} (hd: ∀c,o.op≠ .defer c) (hK: ∀a w,K a w→K' a w) (h:o.wp P a w K Q):o.wpIn (fen ro) 0 P a w K' Q:=by
 refine⟨λf _=>fen_fn f,?_⟩
 rw[tq,Oper.semAt_eq ro _ _ hd]
 unfold Oper.wp at h
 generalize (execOp a.eval o).run P w=r at h ⊢
 cases r with
 |ok x w'=>
  cases x with
  |value v=>exact hK _ _ h
  |skip=>exact hK _ _ h
  |defer d=>exact hK _ _ h
  |enter f args=>
   refine⟨qq,calls_in (Calls.mono h λe w'' he=>?_)⟩
   cases e with
   |returned v=>exact hK _ _ he
   |panicked c=>exact he
   |outgrown=>exact he
  |row row args=>exact⟨qq,rows_in (_root_.Go.Rows.mono h λv w'' he=>hK _ _ he)⟩
  |_=>exact h.elim
 |halt x w'=>
  cases x with
  |panic v=>exact h
  |_=>exact h.elim
def noDefer (ops:List Oper):Bool:=ops.all λo=>match o.op with|.defer _=>false|_=>true
theorem sf {ops:List Oper} (h:noDefer ops=true) {o:Oper} (ho:o∈ops): ∀c,o.op≠ .defer c:=λc e=>by
 have:=List.all_eq_true.1 h o ho
 rw[e] at this
 cases this
theorem pK (hQ: ¬LetsOut Q): ∀ (l:List Oper),noDefer l=true→∀ (a:Act) (w:World),wpList P ops Q l a w→wpListIn (fen ro) 0 P ops Q l a w
 |[],_,a,w,h=>h
 |o::l,hd,a,w,h=>by
  have hd':noDefer l=true:=by
   unfold noDefer at hd ⊢
   rw[List.all_cons,Bool.and_eq_true] at hd
   exact hd.2
  simp only[wpList] at h
  simp only[wpListIn]
  split
  ·rename_i hw
   rw[if_pos hw] at h
   rcases h with h|h
   ·exact op_in (sf hd (by simp)) (pK hQ l hd') h
   exact absurd h.2 hQ
  rename_i hw
  rw[if_neg hw] at h
  exact⟨λf _=>fen_fn f,pK hQ l hd' _ _ h⟩
abbrev _root_.Go.Code.wr (ro:Option Nat) (P:Program) (c:Code) (Q:Exit→Act→World→Prop) (a:Act) (w:World):Prop:=c.wpIn (fen ro) 0 P Q a w
theorem gZ {K:Act→World→Prop} (h: ¬LetsOut Q): ¬LetsOut (Exit.then K Q):=h
theorem ol {i:Nat} (h: ¬LetsOut Q): ¬LetsOut (Exit.inBlock i Q):=h
theorem RI_out {c:Code} (h:c.wr none P Q a w):c.wp P Q a w:=wpIn_wide.1 h
theorem rD {id:Nat} (hQ: ¬LetsOut Q) (hd:noDefer ops.toList=true) (h:wpList P ops Q ops.toList a w): (Code.region id ops false).wr ro P Q a w:=
 wpIn_region_list (pK hQ _ hd _ _ h)
theorem RI_seq {x y:Code} (h:x.wr ro P (Exit.then (y.wr ro P Q) Q) a w): (Code.seq x y).wr ro P Q a w:=wpIn_seq h
theorem RI_mono {c:Code} {Q':Exit→Act→World→Prop} (h:c.wr ro P Q a w) (hq: ∀e a w,Q e a w→Q' e a w):c.wr ro P Q' a w:=wpIn_mono h hq
theorem RI_block {id:Nat} {c:Code} (h:c.wr ro P (Exit.inBlock id Q) a w): (Code.block id c).wr ro P Q a w:=wpIn_block h
theorem RI_skip (h:Q .normal a w):Code.skip.wr ro P Q a w:=wpIn_skip h
theorem RI_ret (h:Q .ret a w):Code.ret.wr ro P Q a w:=wpIn_ret h
variable {n:Nat}
theorem RI_cond {L:Fr} {c:Operand} {x y:Code} {b:Bool} (hf:Frm n L a dd) (hc:ev L c=.bool b) (hh:has L c=true)
 (ht:b=true→x.wr ro P Q a w) (hF:b=false→y.wr ro P Q a w): (Code.cond c x y).wr ro P Q a w:=
 wpIn_cond_split ((hf.ev hh).trans hc) ht hF
theorem oE {md:Region.Mode} {k g:Nat} {Lh:Array Bool→Act→Prop} (hQ: ¬LetsOut Q) (hd:noDefer ops.toList=true) (hL: ∀listed a,Lh listed a→wpAnyIn (fen ro) 0 P md ops Q g listed a w):
 ∀ (f:Nat) (listed:Array Bool) (a:Act),wpAnyL P md ops w k Lh f listed a→wpAnyIn (fen ro) 0 P md ops Q (f+g) listed a w
 |0,listed,a,h=>by rw[Nat.zero_add];exact hL _ _ h
 |f+1,listed,a,h=>by
  rw[show f+1+g=(f+g)+1 by omega]
  refine⟨λh0=>absurd h0 h.1,λi hi=>?_⟩
  have h2:wpOp P ops Q i (wpAnyIn (fen ro) 0 P md ops Q (f+g) (listed.setIfInBounds i true)) a w:=wpOp_of_stOp (λa' h'=>oE hQ hd hL f _ a' h') (h.2 i hi).2
  unfold wpOp at h2
  unfold wpOpIn
  cases ho:ops[i]? with
  |none=>rw[ho] at h2;exact h2
  |some o=>
   rw[ho] at h2
   dsimp only at h2 ⊢
   split
   ·rename_i hw
    rw[if_pos hw] at h2
    rcases h2 with h2|h2
    ·exact op_in (sf hd (by have:=Array.mem_of_getElem? ho;simpa using this)) (λ_ _ h=>h) h2
    exact absurd h2.2 hQ
   rename_i hw
   rw[if_neg hw] at h2
   exact⟨λf _=>fen_fn f,h2⟩
theorem py {md:Region.Mode}: ∀ (l:List Oper) (k:Nat) (listed:Array Bool) (a:Act) (w:World),(∀j,l[j]? =ops[k+j]?)→
 Region.seqB md ops l.length k listed=true→wpListIn (fen ro) 0 P ops Q l a w→wpAnyIn (fen ro) 0 P md ops Q l.length listed a w
 |[],_,_,_,_,_,hB,h=>⟨by simpa [Region.seqB] using hB,h⟩
 |o::l,k,listed,a,w,hl,hB,h=>by
  have h0:ops[k]? =some o:=by simpa using (hl 0).symm
  simp only[List.length_cons,Region.seqB,Bool.and_eq_true,decide_eq_true_eq] at hB
  refine⟨λh1=>(by rw[hB.1] at h1;cases h1),λi hi=>?_⟩
  rw[hB.1] at hi
  have hik:i=k:=by simpa using hi
  subst hik
  have hw:wpOpIn (fen ro) 0 P ops Q i (wpListIn (fen ro) 0 P ops Q l) a w:=by unfold wpOpIn;simp only[h0];exact h
  exact wpOpIn_mono (λa' w' h'=>py l (i+1) _ a' w' (λj=>by have:=hl (j+1);simpa [Nat.add_assoc,Nat.add_comm 1 j] using this) hB.2 h') hw
theorem RI_drawT {id:Nat} {l:List Oper} {w0:World} {M:Mem} {H:List Ent} (m:Nat) (hp:Hp w0 M H w) (hm:P.follows .mixedOrders=true) (hB:Region.lexTailB .any l.toArray m=true) (hQ: ¬LetsOut Q) (hd:noDefer l=true)
 (h: ∀w',Hp w0 M H w'→wpStill P l.toArray w' (λa'=>wpListIn (fen ro) 0 P l.toArray Q (l.drop m) a' w') (l.take m) a): (Code.region id l.toArray true).wr ro P Q a w:=by
 simp only[Region.lexTailB,Bool.and_eq_true,decide_eq_true_eq] at hB
 obtain⟨⟨⟨⟨hsel,hn⟩,hs⟩,hc⟩,hlex⟩:=hB
 have hn':m<l.length:=by simpa using hn
 have htl: (l.take m).length=m:=by simp;omega
 have hdl: (l.drop m).length=l.toArray.size-m:=by simp
 have inv0:HeadInv .any l.toArray m (Array.replicate l.toArray.size false):=
  ⟨by simp,λj oj _ hl=>(by rw[getD_replicate_false] at hl;cases hl),λt _ ht=>getD_in (by simpa using ht) (getD_replicate_false _ _)⟩
 have HH:=wpAnyL_lex (md:=.any) (g:=l.toArray.size-m) hsel hs hc hn (l.take m) 0 _ a (λj hj=>by
  have hj':j<m:=by rw[htl] at hj;exact hj
  simp[hj']) (by simpa using htl) inv0 (by rw[htl];exact hlex) (h _ hp.drew)
 refine wpIn_region_any hm ?_
 have:=oE (ro:=ro) (g:=l.toArray.size-m) hQ (by simpa using hd) (λlisted a' hL=>by
  have:=py (ro:=ro) (md:=.any) (l.drop m) m listed a' {w with drawn:=w.drawn+1} (λj=>by simp[List.getElem?_drop]) (by rw[hdl];exact hL.1) hL.2
  rwa [hdl] at this) _ _ _ HH
 rw[htl,show m+ (l.toArray.size-m)=l.toArray.size by omega] at this
 exact this
theorem WI_round {L:Fr} {o:Oper} {rest:List Oper} {d:Nat} {l:Nat} {fn:FuncId} {tmps:Array Value} {asg bd:Code} {R:Ending→World→Prop} (hf:Frm n L a dd) (hw:bi ops L o=some true) (hr:bW L o=true)
 (hd:o.dst=some d) (hdn:Nat.blt d n=true) (hdf: ∀c,o.op≠ .defer c) (hx: (execOp (ev L) o).run P w=.ok (.round l fn tmps asg bd) w) (hR:RoundIn Fence.wide 0 P l fn tmps asg bd w R)
 (hk: ∀e w',R e w'→∃v,e=.returned v∧∀a',Frm n ((d,v)::L) a' dd→wpListIn (fen none) 0 P ops Q rest a' w'):wpListIn (fen none) 0 P ops Q (o::rest) a w:=by
 simp only[wpListIn]
 rw[hf.wanted hw,if_pos rfl]
 refine⟨λf _=>fen_fn f,?_⟩
 rw[tq,Oper.semAt_eq none _ _ hdf,hf.exec hr,hx]
 refine⟨qq,RoundIn.mono hR λe w' he=>?_⟩
 obtain⟨v,rfl,h⟩:=hk e w' he
 refine h _ ?_
 rw[hd]
 exact hf.put (by simpa [Nat.blt_eq] using hdn) v
end
inductive Jmp
 |ret
 |exit (id:Nat)
def Jmp.code:Jmp→Code
 |.ret=>.ret
 |.exit id=>.exit id
def Jmp.way:Jmp→Exit
 |.ret=>.ret
 |.exit id=>.exit id
def mu {σ α β:Type} (Y:σ→α→Option (Lp σ β)):List α→σ→Option (Lp σ β)
 |[],s=>some (.nx s)
 |x::xs,s=>(Y s x).bind λr=>match r with|.nx s'=>mu Y xs s'|.br b=>some (.br b)
theorem tt {σ α β:Type} (Y:σ→α→Option (Lp σ β)): ∀ (xs ys:List α) (s:σ),mu Y (xs++ys) s=(mu Y xs s).bind λr=>match r with|.nx s'=>mu Y ys s'|.br b=>some (.br b)
 |[],ys,s=>rfl
 |x::xs,ys,s=>by
  simp only[List.cons_append,mu]
  cases Y s x with
  |none=>rfl
  |some r=>
   cases r with
   |nx s'=>exact tt Y xs ys s'
   |br b=>rfl
section
variable {σ α β:Type} {P:Program} {l:Nat} {vals:Mem→α→Lv→Prop} {Y:σ→α→Option (Lp σ β)}
def Grows (J:σ→Mem→List Ent→Prop):Prop:=∀s M M' E,M.le M'→J s M E→J s M' E
def Yld (P:Program) (l:Nat) (vals:Mem→α→Lv→Prop) (J:σ→Mem→List Ent→Prop) (Jx:β→Mem→List Ent→Prop) (Y:σ→α→Option (Lp σ β)):Prop:=
 ∀s x r,Y s x=some r→∀w0 M E H w vs,J s M E→vals M x vs→Hp w0 M (E++H) w→
  ∃fn tmps asg bd,(Instr.yield l vs.toArray).run P w=.ok (.round l fn tmps asg bd) w∧
   RoundIn Fence.wide 0 P l fn tmps asg bd w λe w'=>∃M' E',M.le M'∧Hp w0 M' (E'++H) w'∧match r with
    |.nx s'=>e=.returned (.bool true)∧J s' M' E'
    |.br b=>e=.returned (.bool false)∧Jx b M' E'
def IterTo (P:Program) (f:FuncId) (args:Lv) (J:σ→Mem→List Ent→Prop) (Jx:β→Mem→List Ent→Prop) (r:Lp σ β) (s0:σ) (M:Mem):Prop:=
 ∀w0 M1 E H w,M.le M1→J s0 M1 E→Hp w0 M1 (E++H) w→Calls P f args.toArray w λe w'=>∃v,e=.returned v∧∃M' E',M1.le M'∧Hp w0 M' (E'++H) w'∧match r with
  |.nx s'=>J s' M' E'
  |.br b=>Jx b M' E'
def RB (Ju:σ→Mem→List Ent→Prop) (Jxu:β→Mem→List Ent→Prop) (jm:β→Jmp) (r:Lp σ β) (w0:World) (M:Mem) (H:List Ent):Exit→Act→World→Prop:=λe _ w=>
 match r with
 |.nx s'=>e=.normal∧∃M' E',M.le M'∧Hp w0 M' (E'++H) w∧Ju s' M' E'
 |.br b=>e=(jm b).way∧∃M' E',M.le M'∧Hp w0 M' (E'++H) w∧Jxu b M' E'
theorem RB_out {Ju:σ→Mem→List Ent→Prop} {Jxu:β→Mem→List Ent→Prop} {jm:β→Jmp} {r:Lp σ β} {w0:World} {M:Mem} {H:List Ent}: ¬LetsOut (RB Ju Jxu jm r w0 M H):=by
 rintro⟨a,w,h⟩
 unfold RB at h
 cases r with
 |nx s=>cases h.1
 |br b=>have:=h.1;cases hj:jm b<;>rw[hj] at this<;>cases this
abbrev mark (D:Nat):List Deferred:=[{target:=.collected D,args:=#[]}]
theorem Frm.zip1 {n:Nat} {L:Fr} {a:Act} (h:Frm n L a) {p:Nat} (hp:Nat.blt p n=true) (v:Value):Frm n ((p,v)::L) {tmps:=((#[p]:Array Tmp).zip #[v]).foldl (λt (p,v)=>t.setIfInBounds p v) a.tmps,defers:=[]}:=by
 have:=h.put (d:=p) (by simpa [Nat.blt_eq] using hp) v
 have e: ((#[p]:Array Tmp).zip #[v]).foldl (λt (p,v)=>t.setIfInBounds p v) a.tmps=(a.put (some p) v).tmps:=by
  simp[Act.put]
 exact⟨by rw[e];exact this.size,rfl,by rw[e];exact this.at_⟩
theorem Frm.marked {n:Nat} {L:Fr} {a:Act} (h:Frm n L a) (D:Nat):Frm n L {a with defers:=mark D++a.defers} (mark D):=
 ⟨h.size,by show mark D++a.defers=_;rw[h.defers];rfl,h.at_⟩
theorem R_range {n:Nat} {Lf:Fr} {g:Operand} {p:Nat} {assign body:Code} {Q:Exit→Act→World→Prop} {a:Act} {w w0:World} {M:Mem} {H E0:List Ent} {f:FuncId} {caps:Lv}
 (hf:Frm n Lf a) (hp:Hp w0 M (E0++H) w) (hg:has Lf g=true) (hgv:ev Lf g=.func (.func f) #[] caps.toArray) (hpn:Nat.blt p n=true) (eg: ∀args w,(callFunc f args).run P w=.ok (.enter f args) w)
 (Ju:σ→Mem→List Ent→Prop) (Jxu:β→Mem→List Ent→Prop) (jm:β→Jmp) (s0:σ) (r:Lp σ β) (hJ:Ju s0 M E0) (hgr:Grows Ju) (hgx:Grows Jxu)
 (hv1: ∀M x vs,vals M x vs→∃v,vs=[v])
 (hit: ∀l J Jx,Grows J→Grows Jx→Yld P l vals J Jx Y→IterTo P f (.func (.yield l) #[] #[]::caps) J Jx r s0 M)
 (round: ∀s x r',Y s x=some r'→∀l w0' M' E1 Hr w1 a1 v,M.le M'→Ju s M' E1→vals M' x [v]→Hp w0' M' (E1++Hr) w1→Frm n ((p,v)::Lf) a1→
  assign.wr (some l) P (Exit.then (λa2 w2=>∃M2 E2,M'.le M2∧Hp w0' M2 (E2++Hr) w2∧∀Hr' w3,Hp w0' M2 (E2++Hr') w3→body.wr (some l) P (RB Ju Jxu jm r' w0' M2 Hr') a2 w3) (λ_ _ _=>False)) a1 w1)
 (hdone: ∀s',r=.nx s'→∀l D rr M' E1 w4 a',M.le M'→Ju s' M' E1→Hp w0 M' (.obj l (.loop rr)::.obj D (.deferred (some []))::(E1++H)) w4→Frm n Lf a' (mark D)→Q .normal a' w4)
 (hjump: ∀b,r=.br b→∀l D rr M' E1 w4 a',M.le M'→Jxu b M' E1→Hp w0 M' (.obj l (.loop rr)::.obj D (.deferred (some []))::(E1++H)) w4→Frm n Lf a' (mark D)→Q (jm b).way a' w4):
 (Code.rangeFunc g #[p] assign body).wp P Q a w:=by
 refine(wpIn_wide (n:=0)).1 (wpIn_rangeFunc (F:=Fence.wide) λfn _=>?_)
 obtain⟨rec,hrec⟩: ∃rec:LoopState→Option Code→Loop,rec=λst pe=>{state:=st,pending:=pe,fn,tmps:=a.tmps,params:=#[p],assign,body,defers:=w.heap.size}:=⟨_,rfl⟩
 obtain⟨D,hD⟩: ∃D,D=w.heap.size:=⟨_,rfl⟩
 obtain⟨l,hl⟩: ∃l,l=w.heap.size+1:=⟨_,rfl⟩
 have hg':a.eval g=.func (.func f) #[] caps.toArray:=(hf.ev hg).trans hgv
 obtain⟨W1,hW1⟩: ∃W1,W1=(w.alloc (.deferred (some []))).alloc (.loop (rec .ready none)):=⟨_,rfl⟩
 refine⟨l,mark D,W1,{target:=.fn (.func f) caps.toArray,args:=#[.func (.yield l) #[] #[]]},W1,f,
  (.func (.yield l) #[] #[]::caps).toArray,W1,?_,?_,?_,?_,(λh=>absurd h (by decide)),?_⟩
 ·rw[hW1,hl,hD,hrec];exact run_enterLoop_outer _ _ _ _ _
 ·simp only[resolve,hg']
  simp[go_sem]
 ·intro f' _;trivial
 ·simp[invoke,go_sem,eg]
 have hp1:Hp w0 M (.obj l (.loop (rec .ready none))::.obj D (.deferred (some []))::(E0++H)) W1:=by
  rw[hW1]
  have h1:=(hp.alloc (.deferred (some []))).alloc (.loop (rec .ready none))
  rw[World.size_alloc,←hD] at h1
  rw[hl,←hD]
  exact h1
 let J:σ→Mem→List Ent→Prop:=λs M' E=>M.le M'∧∃E1,E=.obj l (.loop (rec .ready none))::.obj D (.deferred (some []))::E1∧Ju s M' E1
 let Jx:β→Mem→List Ent→Prop:=λb M' E=>M.le M'∧∃E1,E=.obj l (.loop (rec .done (some (jm b).code)))::.obj D (.deferred (some []))::E1∧Jxu b M' E1
 have hgJ:Grows J:=λs M1 M2 E h12 ⟨h1,E1,h2,h3⟩=>⟨h1.trans h12,E1,h2,hgr _ _ _ _ h12 h3⟩
 have hgJx:Grows Jx:=λs M1 M2 E h12 ⟨h1,E1,h2,h3⟩=>⟨h1.trans h12,E1,h2,hgx _ _ _ _ h12 h3⟩
 have hY:Yld P l vals J Jx Y:=by
  intro s x r' hr' w0' M1 E Hr w1 vs ⟨hM1,E1,hE,hu⟩ hvs hp2
  subst hE
  obtain⟨v,rfl⟩:=hv1 _ _ _ hvs
  have hlr:w1.heap[l]? =some (.loop (rec .ready none)):=(hp2.own _ (List.mem_cons_self)).2
  have hy:=run_yield (P:=P) (args:=#[v]) hlr (by rw[hrec];rfl)
  refine⟨fn,_,assign,body,by rw[hrec] at hy;exact hy,roundIn_of_wpIn trivial ?_⟩
  have hp3:Hp w0' M1 (E1++(.obj l (.loop (rec .ready none))::.obj D (.deferred (some []))::Hr)) w1:=by
   refine hp2.perm ?_
   exact(List.perm_append_comm (l₁:=[_,_]) (l₂:=E1)).append_right Hr |>.trans (by simp)
  have h1:=round s x r' hr' l w0' M1 E1 _ w1 _ v hM1 hu hvs hp3 (hf.zip1 hpn v)
  refine RI_mono h1 λe a2 w2 hq=>?_
  cases e with
  |normal=>
   obtain⟨M2,E2,hM2,hp4,hb⟩:=hq
   have hp5:Hp w0' M2 (.obj l (.loop (rec .ready none))::(.obj D (.deferred (some []))::(E2++Hr))) w2:=hp4.perm (by
    have:=(List.perm_append_comm (l₁:=E2) (l₂:=[Ent.obj l (.loop (rec .ready none)),Ent.obj D (.deferred (some []))])).append_right Hr
    simpa using this)
   have hlr2:w2.heap[l]? =some (.loop (rec .ready none)):=(hp5.own _ (List.mem_cons_self)).2
   have hbr:=run_beginRound (P:=P) hlr2 (by rw[hrec])
   have hp6:Hp w0' M2 (.obj l (.loop (rec .busy none))::(.obj D (.deferred (some []))::(E2++Hr))) (w2.putObj l (.loop {rec .ready none with state:=.busy})):=by
    have:=hp5.put (y:=.loop {rec .ready none with state:=.busy})
    rw[hrec] at this ⊢
    exact this
   have hp7:Hp w0' M2 (E2++(.obj l (.loop (rec .busy none))::.obj D (.deferred (some []))::Hr)) (w2.putObj l (.loop {rec .ready none with state:=.busy})):=hp6.perm (by
    have:=(List.perm_append_comm (l₁:=[Ent.obj l (.loop (rec .busy none)),Ent.obj D (.deferred (some []))]) (l₂:=E2)).append_right Hr
    simpa using this)
   refine⟨_,hbr,RI_mono (hb _ _ hp7) λe3 a3 w3 hq3=>?_⟩
   have fin: ∀ (jump:Option Code) (M3:Mem) (E3:List Ent),Hp w0' M3 (E3++(.obj l (.loop (rec .busy none))::.obj D (.deferred (some []))::Hr)) w3→
    ∃w4,(Instr.endRound l jump).run P w3=.ok (.bool jump.isNone) w4∧Hp w0' M3 ((.obj l (.loop (rec (if jump.isNone then .ready else .done) jump))::.obj D (.deferred (some []))::E3)++Hr) w4:=λjump M3 E3 hq=>by
    have hq1:Hp w0' M3 (.obj l (.loop (rec .busy none))::(.obj D (.deferred (some []))::(E3++Hr))) w3:=hq.perm (by
     have:=(List.perm_append_comm (l₁:=E3) (l₂:=[Ent.obj l (.loop (rec .busy none)),Ent.obj D (.deferred (some []))])).append_right Hr
     simpa using this)
    have hlr3:w3.heap[l]? =some (.loop (rec .busy none)):=(hq1.own _ (List.mem_cons_self)).2
    refine⟨_,run_endRound jump hlr3,?_⟩
    have:=hq1.put (y:=.loop {rec .busy none with state:=if jump.isNone then .ready else .done,pending:=jump})
    rw[hrec] at this ⊢
    exact this
   unfold RB at hq3
   cases r' with
   |nx s'=>
    obtain⟨rfl,M3,E3,hM3,hp8,hu3⟩:=hq3
    obtain⟨w4,he,hp9⟩:=fin none M3 E3 hp8
    exact⟨_,w4,he,M3,_,hM2.trans hM3,hp9,rfl,hM1.trans (hM2.trans hM3),E3,rfl,hu3⟩
   |br b=>
    obtain⟨he3,M3,E3,hM3,hp8,hu3⟩:=hq3
    obtain⟨w4,he,hp9⟩:=fin (some (jm b).code) M3 E3 hp8
    cases hj:jm b with
    |ret=>
     rw[hj] at he3
     cases he3
     rw[hj] at he hp9
     exact⟨_,w4,he,M3,_,hM2.trans hM3,hp9,rfl,hM1.trans (hM2.trans hM3),E3,by rw[hj];rfl,hu3⟩
    |exit id=>
     rw[hj] at he3
     cases he3
     rw[hj] at he hp9
     exact⟨_,w4,he,M3,_,hM2.trans hM3,hp9,rfl,hM1.trans (hM2.trans hM3),E3,by rw[hj];rfl,hu3⟩
  |_=>exact hq.elim
 have hcall:=hit l J Jx hgJ hgJx hY w0 M (.obj l (.loop (rec .ready none))::.obj D (.deferred (some []))::E0) H _ (Mem.le_refl M) ⟨Mem.le_refl M,E0,rfl,hJ⟩ hp1
 refine CallsIn.mono (callsIn_wide.2 hcall) ?_
 rintro e w3 ⟨v,rfl,M',E',hM',hp4,hr⟩
 have hfm:=hf.marked D
 cases hrr:r with
 |nx s'=>
  rw[hrr] at hr
  obtain⟨_,E1,rfl,hu⟩:=hr
  have hlr:w3.heap[l]? =some (.loop (rec .ready none)):=(hp4.own _ (List.mem_cons_self)).2
  have he:=run_endLoop (P:=P) hlr (by rw[hrec];simp)
  have hpe: (rec .ready none).pending=none:=by rw[hrec]
  rw[hpe] at he
  refine⟨none,_,he,?_⟩
  exact hdone s' hrr l D _ M' E1 _ _ hM' hu hp4.put hfm
 |br b=>
  rw[hrr] at hr
  obtain⟨_,E1,rfl,hu⟩:=hr
  have hlr:w3.heap[l]? =some (.loop (rec .done (some (jm b).code))):=(hp4.own _ (List.mem_cons_self)).2
  have he:=run_endLoop (P:=P) hlr (by rw[hrec];simp)
  have hpe: (rec .done (some (jm b).code)).pending=some (jm b).code:=by rw[hrec]
  refine⟨some (jm b).code,_,he.trans (congrArg (λz=>Result.ok z _) hpe),?_⟩
  have hp5:=hp4.put (y:=.loop {rec .done (some (jm b).code) with state:=.exhausted})
  have h5:=hjump b hrr l D _ M' E1 _ _ hM' hu hp5 hfm
  cases hj:jm b with
  |ret=>rw[hj] at h5;exact wpIn_ret h5
  |exit id=>rw[hj] at h5;exact wpIn_exit h5
end
section
variable {P:Program} {fn:Func} {n:Nat} {L:Fr} {a:Act} {w w0:World} {M:Mem} {H:List Ent} {R:Ending→World→Prop}
theorem R_enterM {f:FuncId} {c:Code} {args:Lv} (n:Nat)
 (hf:P.funcs[f]? =some fn) (hb:fn.body=some c) (hn:fn.ntmps=n) (hle:args.length≤n)
 (h: ∀a,Frm n (frame0 args 0) a→c.wp P (bodyPostM Fence.wide 0 P fn R) a w):Calls P f args.toArray w R:=by
 refine(callsIn_wide (n:=0)).1 (callsIn_of_wp_marks hf hb trivial (wpIn_wide.2 (h _ ⟨by simp[hn];omega,rfl,λt v hv=>?_⟩)))
 obtain⟨_,h2⟩:=kO args 0 t v hv
 simp only[Nat.sub_zero] at h2
 have hlt:t<args.length:=(List.getElem?_eq_some_iff.1 h2).1
 rw[List.getElem?_eq_getElem hlt] at h2
 simp only[Option.some.injEq] at h2
 simp[Array.getElem?_append,hlt,h2]
def Res (P:Program) (fn:Func) (a:Act) (R:Ending→World→Prop) (w:World):Prop:=∃v,(results fn a.tmps).run P w=.ok v w∧R (.returned v) w
theorem E_M0 (hf:Frm n L a) (h:Res P fn a R w):bodyPostM Fence.wide 0 P fn R .ret a w:=by
 show LeavesInM Fence.wide 0 P fn a.tmps R a.defers .returning w
 rw[hf.defers]
 exact h
theorem E_M1 {D:Nat} (hf:Frm n L a (mark D)) (hp:Hp w0 M (.obj D (.deferred (some []))::H) w) (h: ∀w,Hp w0 M H w→Res P fn a R w):bodyPostM Fence.wide 0 P fn R .ret a w:=by
 show LeavesInM Fence.wide 0 P fn a.tmps R a.defers .returning w
 rw[hf.defers]
 have hk:w.heap[D]? =some (.deferred (some [])):=(hp.own _ (List.mem_cons_self)).2
 exact⟨by simp,.inl ⟨D,_,rfl,run_takeDeferred hk,h _ (hp.put (y:=.deferred none)).drop⟩⟩
theorem V_rv1 {r0:ResultVar} {v0:Value} (hr:fn.results=#[r0]) (h0:Rv P a w r0 v0) (h:R (.returned v0) w):Res P fn a R w:=
 ⟨_,by
  unfold Rv at h0
  rw[lJ,hr]
  simp[h0],h⟩
theorem tf {r0 r1 r2:ResultVar} {v0 v1 v2:Value} (hr:fn.results=#[r0,r1,r2]) (h0:Rv P a w r0 v0) (h1:Rv P a w r1 v1) (h2:Rv P a w r2 v2) (h:R (.returned (.tuple #[v0,v1,v2])) w):Res P fn a R w:=
 ⟨_,by
  unfold Rv at h0 h1 h2
  rw[lJ,hr]
  simp[h0,h1,h2],h⟩
end
def IterOk (P:Program) (f:FuncId) (caps:Lv) {α:Type} (vals:Mem→α→Lv→Prop) (xs:List α) (M:Mem):Prop:=
 (∀args w,(callFunc f args).run P w=.ok (.enter f args) w)∧
 ∀ (σ β:Type) (Y:σ→α→Option (Lp σ β)) (s0:σ) (r:Lp σ β),mu Y xs s0=some r→∀l J Jx,Grows J→Grows Jx→Yld P l vals J Jx Y→IterTo P f (.func (.yield l) #[] #[]::caps) J Jx r s0 M
theorem IterOk.mono {P:Program} {f:FuncId} {caps:Lv} {α:Type} {vals:Mem→α→Lv→Prop} {xs:List α} {M M':Mem} (h:IterOk P f caps vals xs M) (hM:M.le M'):IterOk P f caps vals xs M':=
 ⟨h.1,λσ β Y s0 r hr l J Jx hJ hJx hY w0 M1 E H w h1=>h.2 σ β Y s0 r hr l J Jx hJ hJx hY w0 M1 E H w (hM.trans h1)⟩
section
variable {σ β:Type} {Ju:σ→Mem→List Ent→Prop} {Jxu:β→Mem→List Ent→Prop} {jm:β→Jmp} {w0:World} {M:Mem} {H:List Ent} {a:Act} {w:World}
theorem F_out: ¬LetsOut (λ_ _ _=>False):=λ ⟨_,_,h⟩=>h
theorem RB_n {s':σ} (h: ∃M' E',M.le M'∧Hp w0 M' (E'++H) w∧Ju s' M' E'):RB Ju Jxu jm (.nx s') w0 M H .normal a w:=⟨rfl,h⟩
theorem RB_x {b:β} {e:Exit} (he:e=(jm b).way) (h: ∃M' E',M.le M'∧Hp w0 M' (E'++H) w∧Jxu b M' E'):RB Ju Jxu jm (.br b) w0 M H e a w:=⟨he,h⟩
end
theorem Hp.fzOwn {w0:World} {M:Mem} {H:List Ent} {w:World} {b:Nat} {T:TypeId} {cs:Lv} (h:Hp w0 M (.obj b (.cells cs.toArray T (0,0))::H) w):
 ∃M',M.le M'∧Hp w0 M' H w∧∀j v,cs[j]? =some v→M'.cell? ((⟨b,0,none⟩:Addr).add j)=some v:=
 ⟨_,h.freeze.1,h.freeze.2,aU (cs:=cs.toArray) (λj v hv=>by rw[lu,hv])⟩
section
variable {P:Program} {ops:Array Oper} {md:Region.Mode} {Q:Exit→Act→World→Prop} {I:Type}
end
section
variable {P:Program} {ops:Array Oper} {n:Nat} {Q:Exit→Act→World→Prop} {L:Fr} {a:Act} {w0 w:World} {M:Mem} {Hr:List Ent} {i:Mem×List Ent}
end
variable {dd:List Deferred}
def takeAt:Nat→List Ent→Option (Ent×List Ent)
 |0,e::H=>some (e,H)
 |i+1,e::H=>(takeAt i H).map λr=>(r.1,e::r.2)
 |_,[]=>none
def pullE (i:Nat) (H:List Ent):List Ent:=match takeAt i H with|some r=>r.1::r.2|none=>H
def pulls:List Nat→List Ent→List Ent
 |[],H=>H
 |i::is,H=>pulls is (pullE i H)
theorem qY: ∀ (i:Nat) (H:List Ent) (r:Ent×List Ent),takeAt i H=some r→H.Perm (r.1::r.2)
 |0,[],r,h=>by simp[takeAt] at h
 |0,e::H,r,h=>by simp only[takeAt,Option.some.injEq] at h;subst h;exact List.Perm.refl _
 |i+1,[],r,h=>by simp[takeAt] at h
 |i+1,e::H,r,h=>by
  simp only[takeAt] at h
  obtain⟨s,hs,rfl⟩:=Option.map_eq_some_iff.1 h
  exact((qY i H s hs).cons e).trans (List.Perm.swap _ _ _)
theorem sn: ∀ (is:List Nat) (H:List Ent),H.Perm (pulls is H)
 |[],H=>List.Perm.refl _
 |i::is,H=>by
  unfold pulls
  refine List.Perm.trans ?_ (sn is _)
  unfold pullE
  split
  ·rename_i r hr;exact qY i H r hr
  exact List.Perm.refl _
theorem Hp.pl {w0 w:World} {M:Mem} {H:List Ent} (h:Hp w0 M H w) (is:List Nat):Hp w0 M (pulls is H) w:=h.perm (sn is H)
theorem fzu {M M':Mem} {base:Addr} {cs:Lv} (hM:M.le M') (h: ∀j u,cs[j]? =some u→M.cell? (base.add j)=some u): ∀j u,cs[j]? =some u→M'.cell? (base.add j)=some u:=λj u e=>hM.cell (h j u e)
def runF (P:Program) (ops:Array Oper) (n:Nat) (l:List Oper) (L:Fr) (w:World):Fr:=match runL P ops n l L w with|some r=>r.1|none=>[]
section
variable {P:Program} {ops:Array Oper} {n:Nat} {Q:Exit→Act→World→Prop} {L:Fr} {a:Act} {w0 w:World} {M:Mem} {H:List Ent}
theorem V_run {l:List Oper} (hf:Frm n L a dd) (m:Nat) (h: (runL P ops n (l.take m) L w).map (·.2)=some w) (hk: ∀a',Frm n (runF P ops n (l.take m) L w) a' dd→wpList P ops Q (l.drop m) a' w):wpList P ops Q l a w:=by
 obtain⟨r,h1,h2⟩:=Option.map_eq_some_iff.1 h
 have e:runF P ops n (l.take m) L w=r.1:=by unfold runF;rw[h1]
 rw[e] at hk
 have:=mC (Q:=Q) (l.drop m) (l.take m) L w a hf r.1 w (by rw[h1,←h2]) hk
 rwa [List.take_append_drop] at this
theorem Y {l:List Oper} (hf:Frm n L a dd) (m:Nat) (hk: ∀a',Frm n (runF P ops n (l.take m) L w) a' dd→wpList P ops Q (l.drop m) a' w) (h: (runL P ops n (l.take m) L w).map (·.2)=some w:=by kernel_rfl):wpList P ops Q l a w:=V_run hf m h hk
theorem Ye {K : Act → World → Prop} {l : List Oper} (hf : Frm n L a dd) (m : Nat) (hk : ∀ a', Frm n (runF P ops n (l.take m) L w) a' dd → K a' w) (hl : l.drop m = [] := by rfl) (h : (runL P ops n (l.take m) L w).map (·.2) = some w := by kernel_rfl) : wpList P ops (Exit.then K Q) l a w := Y hf m (fun a' f => eT (hk a' f) hl) h
def okO (ops:Array Oper) (n:Nat) (L:Fr) (o:Oper):Bool:=match bi ops L o with
 |some true=>bW L o&& (match o.dst with|some d=>Nat.blt d n|none=>false)
 |_=>false
def dstO (o:Oper):Nat:=o.dst.getD 0
theorem jH {o:Oper} (h:okO ops n L o=true):bi ops L o=some true∧bW L o=true∧o.dst=some (dstO o)∧Nat.blt (dstO o) n=true:=by
 unfold okO at h
 split at h
 ·rename_i hw
  simp only[Bool.and_eq_true] at h
  refine⟨hw,h.1,?_⟩
  obtain⟨_,h⟩:=h
  unfold dstO
  split at h
  ·rename_i d hd;rw[hd];exact⟨rfl,h⟩
  cases h
 cases h
def ldO (P:Program) (L:Fr) (o:Oper):Option Value:=match o.op with|.load t x=>bif one1 P t then some (ev L x) else none|_=>none
theorem ldO_spec {o:Oper} {v:Value} (h:ldO P L o=some v): ∃t x,o.op=.load t x∧one1 P t=true∧ev L x=v:=by
 unfold ldO at h
 split at h
 ·rename_i t x he
  cases ht:one1 P t with
  |false=>rw[ht] at h;cases h
  |true=>rw[ht] at h;exact⟨t,x,he,ht,Option.some.inj h⟩
 cases h
theorem V_ld {o:Oper} {rest:List Oper} {base:Addr} {cs:Lv} {v:Value} (hf:Frm n L a dd) (hp:Hp w0 M H w) (hc: ∀j u,cs[j]? =some u→M.cell? (base.add j)=some u) (i:Nat) (hv:cs[i]? =some v)
 (hB:okO ops n L o=true) (hx:ldO P L o=some (.pointer (some (base.add i)))) (hk: ∀a',Frm n ((dstO o,v)::L) a' dd→wpList P ops Q rest a' w):wpList P ops Q (o::rest) a w:=by
 obtain⟨h1,h2,h3,h4⟩:=jH hB
 obtain⟨t,x,e1,e2,e3⟩:=ldO_spec hx
 exact oz hf h1 h2 h3 h4 (eo e1 e3 e2 (hp.cell (hc i v hv))) hk
theorem Y7 {o:Oper} {rest:List Oper} {base:Addr} {cs:Lv} {v:Value} (hf:Frm n L a dd) (hp:Hp w0 M H w) (hc: ∀j u,cs[j]? =some u→M.cell? (base.add j)=some u) (i:Nat) (hv:cs[i]? =some v) (hk: ∀a',Frm n ((dstO o,v)::L) a' dd→wpList P ops Q rest a' w) (hB:okO ops n L o=true:=by kernel_rfl) (hx:ldO P L o=some (Pa (base.add i)):=by kernel_rfl):wpList P ops Q (o::rest) a w:=V_ld hf hp hc i hv hB hx hk
theorem V_eq {w':World} {o:Oper} {rest:List Oper} {v:Value} (hf:Frm n L a dd) (hB:okO ops n L o=true) (hx: (execOp (ev L) o).run P w=.ok (.value v) w') (hk: ∀a',Frm n ((dstO o,v)::L) a' dd→wpList P ops Q rest a' w'):wpList P ops Q (o::rest) a w:=by
 obtain⟨h1,h2,h3,h4⟩:=jH hB
 exact oz hf h1 h2 h3 h4 hx hk
theorem Z {w':World} {o:Oper} {rest:List Oper} {v:Value} (hf:Frm n L a dd) (hx: (execOp (ev L) o).run P w=.ok (.value v) w') (hk: ∀a',Frm n ((dstO o,v)::L) a' dd→wpList P ops Q rest a' w') (hB:okO ops n L o=true:=by kernel_rfl):wpList P ops Q (o::rest) a w:=V_eq hf hB hx hk
theorem V_okv {o:Oper} {rest:List Oper} {f:FuncId} {args:Lv} {v:Value} (hf:Frm n L a dd) (hp:Hp w0 M H w) (hc:Ok P M f args λ_ u=>u=v) (hB:okO ops n L o=true) (hx: ∀w,(execOp (ev L) o).run P w=.ok (.enter f args.toArray) w)
 (hk: ∀w',Hp w0 M H w'→∀a',Frm n ((dstO o,v)::L) a' dd→wpList P ops Q rest a' w'):wpList P ops Q (o::rest) a w:=by
 obtain⟨h1,h2,h3,h4⟩:=jH hB
 exact W_okv hf hp h1 h2 h3 h4 hx hc hk
theorem Y9 {o:Oper} {rest:List Oper} {f:FuncId} {args:Lv} {v:Value} (hf:Frm n L a dd) (hp:Hp w0 M H w) (hc:Ok P M f args λ_ u=>u=v) (hk: ∀w',Hp w0 M H w'→∀a',Frm n ((dstO o,v)::L) a' dd→wpList P ops Q rest a' w') (hB:okO ops n L o=true:=by kernel_rfl) (hx: ∀w,(execOp (ev L) o).run P w=.ok (.enter f args.toArray) w:=by intro _;kernel_rfl):wpList P ops Q (o::rest) a w:=V_okv hf hp hc hB hx hk
theorem V_ok {o:Oper} {rest:List Oper} {f:FuncId} {args:Lv} {Post:Mem→Value→Prop} (hf:Frm n L a dd) (hp:Hp w0 M H w) (hc:Ok P M f args Post) (hB:okO ops n L o=true) (hx: ∀w,(execOp (ev L) o).run P w=.ok (.enter f args.toArray) w)
 (hk: ∀v M' w',M.le M'→Hp w0 M' H w'→Post M' v→∀a',Frm n ((dstO o,v)::L) a' dd→wpList P ops Q rest a' w'):wpList P ops Q (o::rest) a w:=by
 obtain⟨h1,h2,h3,h4⟩:=jH hB
 exact W_ok hf hp h1 h2 h3 h4 hx hc hk
theorem Y8 {o:Oper} {rest:List Oper} {f:FuncId} {args:Lv} {Post:Mem→Value→Prop} (hf:Frm n L a dd) (hp:Hp w0 M H w) (hc:Ok P M f args Post) (hk: ∀v M' w',M.le M'→Hp w0 M' H w'→Post M' v→∀a',Frm n ((dstO o,v)::L) a' dd→wpList P ops Q rest a' w') (hB:okO ops n L o=true:=by kernel_rfl) (hx: ∀w,(execOp (ev L) o).run P w=.ok (.enter f args.toArray) w:=by intro _;kernel_rfl):wpList P ops Q (o::rest) a w:=V_ok hf hp hc hB hx hk
theorem V_okH {o:Oper} {rest:List Oper} {f:FuncId} {args:Lv} {E:List Ent} {Post:Mem→List Ent→Value→Prop} (hf:Frm n L a dd) (hp:Hp w0 M (E++H) w) (hc:OkH P M E f args Post) (hB:okO ops n L o=true) (hx: ∀w,(execOp (ev L) o).run P w=.ok (.enter f args.toArray) w)
 (hk: ∀v M' E' w',M.le M'→Hp w0 M' (E'++H) w'→Post M' E' v→∀a',Frm n ((dstO o,v)::L) a' dd→wpList P ops Q rest a' w'):wpList P ops Q (o::rest) a w:=by
 obtain⟨h1,h2,h3,h4⟩:=jH hB
 exact W_okH hf hp h1 h2 h3 h4 hx hc hk
theorem V_alloc {o:Oper} {rest:List Oper} (hf:Frm n L a dd) (hp:Hp w0 M H w) (ob:Obj) (hB:okO ops n L o=true) (h: ∀w,(execOp (ev L) o).run P w=.ok (.value (.pointer (some ⟨w.heap.size,0,none⟩))) (w.alloc ob))
 (hk: ∀b w',Hp w0 M (.obj b ob::H) w'→∀a',Frm n ((dstO o,.pointer (some ⟨b,0,none⟩))::L) a' dd→wpList P ops Q rest a' w'):wpList P ops Q (o::rest) a w:=
 V_eq hf hB (h w) (hk w.heap.size (w.alloc ob) (hp.alloc ob))
theorem Y4 {o:Oper} {rest:List Oper} (hf:Frm n L a dd) (hp:Hp w0 M H w) (ob:Obj) (hk: ∀b w',Hp w0 M (.obj b ob::H) w'→∀a',Frm n ((dstO o,pP b)::L) a' dd→wpList P ops Q rest a' w') (hB:okO ops n L o=true:=by kernel_rfl) (h: ∀w,(execOp (ev L) o).run P w=.ok (.value (Pa ⟨w.heap.size,0,none⟩)) (w.alloc ob):=by intro _;kernel_rfl):wpList P ops Q (o::rest) a w:=V_alloc hf hp ob hB h hk
theorem aE {o:Oper} {rest:List Oper} (hf:Frm n L a dd) (hp:Hp w0 M H w) (ob:Obj) (k c:Nat) (hB:okO ops n L o=true) (h: ∀w,(execOp (ev L) o).run P w=.ok (.value (.slice (some ⟨w.heap.size,0,none⟩) k c)) (w.alloc ob))
 (hk: ∀b w',Hp w0 M (.obj b ob::H) w'→∀a',Frm n ((dstO o,.slice (some ⟨b,0,none⟩) k c)::L) a' dd→wpList P ops Q rest a' w'):wpList P ops Q (o::rest) a w:=
 V_eq hf hB (h w) (hk w.heap.size (w.alloc ob) (hp.alloc ob))
theorem V_box {o:Oper} {rest:List Oper} {cs:Array Value} {T:TypeId} (hf:Frm n L a dd) (hp:Hp w0 M H w) (hB:okO ops n L o=true) (h: ∀w,(execOp (ev L) o).run P w=.ok (.value (.pointer (some ⟨w.heap.size,0,none⟩))) (w.alloc (.cells cs T (0,0))))
 (hk: ∀b M' w',M.le M'→(∀j v,cs[j]? =some v→M'.cell? ⟨b,j,none⟩=some v)→Hp w0 M' H w'→∀a',Frm n ((dstO o,.pointer (some ⟨b,0,none⟩))::L) a' dd→wpList P ops Q rest a' w'):wpList P ops Q (o::rest) a w:=
 V_alloc hf hp _ hB h λb w' hp'=>hk b _ w' hp'.freeze.1 (λj v hv=>by rw[lu,hv]) hp'.freeze.2
theorem Y5 {o:Oper} {rest:List Oper} {cs:Array Value} {T:TypeId} (hf:Frm n L a dd) (hp:Hp w0 M H w) (hk: ∀b M' w',M.le M'→(∀j v,cs[j]? =some v→M'.cell? ⟨b,j,none⟩=some v)→Hp w0 M' H w'→∀a',Frm n ((dstO o,pP b)::L) a' dd→wpList P ops Q rest a' w') (hB:okO ops n L o=true:=by kernel_rfl) (h: ∀w,(execOp (ev L) o).run P w=.ok (.value (Pa ⟨w.heap.size,0,none⟩)) (w.alloc (.cells cs T (0,0))):=by intro _;kernel_rfl):wpList P ops Q (o::rest) a w:=V_box hf hp hB h hk
end
def runQ (P:Program) (ops:Array Oper) (n:Nat):List Oper→Fr→World→Option (Fr×List World)
 |[],L,_=>some (L,[])
 |o::os,L,w=>match o.dst with
  |none=>none
  |some d=>bif Nat.blt d n then
   (match bi ops L o with
   |none=>none
   |some false=>(runQ P ops n os ((d,undef)::L) w).map λr=>(r.1,w::r.2)
   |some true=>bif bW L o then
    (match (execOp (ev L) o).run P w with
    |.ok (.value v) w'=>(runQ P ops n os ((d,v)::L) w').map λr=>(r.1,w'::r.2)
    |_=>none) else none) else none
def qF (P:Program) (ops:Array Oper) (n:Nat) (l:List Oper) (L:Fr) (w:World):Fr:=match runQ P ops n l L w with|some r=>r.1|none=>[]
theorem sx {P:Program} {ops:Array Oper} {n:Nat}: ∀ (l:List Oper) (L:Fr) (w:World) (r:Fr×List World),runQ P ops n l L w=some r→∃pre,r.1=pre++L∧pre.length=l.length
 |[],L,w,r,h=>by simp only[runQ,Option.some.injEq] at h;subst h;exact⟨[],rfl,rfl⟩
 |o::os,L,w,r,h=>by
  unfold runQ at h
  split at h
  ·cases h
  rename_i d hd
  cases hb:Nat.blt d n with
  |false=>rw[hb] at h;cases h
  |true=>
   rw[hb,cond_true] at h
   have fin: ∀ (v:Value) (w1:World) (s:Fr×List World),runQ P ops n os ((d,v)::L) w1=some s→∃pre,s.1=pre++L∧pre.length=(o::os).length:=λv w1 s hs=>by
    obtain⟨pre,h1,h2⟩:=sx os _ _ s hs
    exact⟨pre++[(d,v)],by rw[h1,List.append_assoc];rfl,by simp[h2]⟩
   split at h
   ·cases h
   ·obtain⟨s,hs,rfl⟩:=Option.map_eq_some_iff.1 h
    exact fin _ _ s hs
   cases hr:bW L o with
   |false=>rw[hr] at h;cases h
   |true=>
    rw[hr,cond_true] at h
    split at h
    ·obtain⟨s,hs,rfl⟩:=Option.map_eq_some_iff.1 h
     exact fin _ _ s hs
    cases h
theorem tN {P:Program} {ops:Array Oper} {n:Nat} {o:Oper} {os:List Oper} {L L':Fr} {wd:World} (h: ∀w,runQ P ops n (o::os) L w=some (L',List.replicate (o::os).length w)):
 ∃d,o.dst=some d∧d<n∧((bi ops L o=some false∧∀w,runQ P ops n os ((d,undef)::L) w=some (L',List.replicate os.length w))∨
  (bi ops L o=some true∧bW L o=true∧∃v,(∀w,(execOp (ev L) o).run P w=.ok (.value v) w)∧∀w,runQ P ops n os ((d,v)::L) w=some (L',List.replicate os.length w))):=by
 have h0:=h wd
 cases hd:o.dst with
 |none=>unfold runQ at h0;simp only[hd] at h0;cases h0
 |some d=>
  cases hb:Nat.blt d n with
  |false=>unfold runQ at h0;simp only[hd,hb,cond_false] at h0;cases h0
  |true=>
   refine⟨d,rfl,by simpa [Nat.blt_eq] using hb,?_⟩
   cases hw:bi ops L o with
   |none=>unfold runQ at h0;simp only[hd,hb,cond_true,hw] at h0;cases h0
   |some b=>
    cases b with
    |false=>
     refine .inl ⟨rfl,λw=>?_⟩
     have h1:=h w
     unfold runQ at h1
     simp only[hd,hb,cond_true,hw] at h1
     obtain⟨s,hs,e⟩:=Option.map_eq_some_iff.1 h1
     obtain⟨s1,s2⟩:=s
     simp only[List.length_cons,List.replicate_succ,Prod.mk.injEq,List.cons.injEq] at e
     rw[hs,e.1,e.2.2]
    |true=>
     cases hr:bW L o with
     |false=>unfold runQ at h0;simp only[hd,hb,cond_true,hw,hr,cond_false] at h0;cases h0
     |true=>
      have key: ∀w,∃v,(execOp (ev L) o).run P w=.ok (.value v) w∧runQ P ops n os ((d,v)::L) w=some (L',List.replicate os.length w):=λw=>by
       have h1:=h w
       unfold runQ at h1
       simp only[hd,hb,cond_true,hw,hr] at h1
       split at h1
       ·rename_i v w' hx
        obtain⟨s,hs,e⟩:=Option.map_eq_some_iff.1 h1
        obtain⟨s1,s2⟩:=s
        simp only[List.length_cons,List.replicate_succ,Prod.mk.injEq,List.cons.injEq] at e
        obtain⟨e1,e2,e3⟩:=e
        subst e2
        exact⟨v,hx,by rw[hs,e1,e3]⟩
       cases h1
      obtain⟨v,hv1,hv2⟩:=key wd
      have same: ∀w u,runQ P ops n os ((d,u)::L) w=some (L',List.replicate os.length w)→u=v:=λw u hu=>by
       obtain⟨p1,q1,r1⟩:=sx os _ _ _ hv2
       obtain⟨p2,q2,r2⟩:=sx os _ _ _ hu
       have e:p1++((d,v)::L)=p2++((d,u)::L):=q1.symm.trans q2
       have:=(List.append_inj e (r1.trans r2.symm)).2
       simp only[List.cons.injEq,Prod.mk.injEq] at this
       exact this.1.2.symm
      refine .inr ⟨rfl,rfl,v,λw=>?_,λw=>?_⟩
      ·obtain⟨u,h1,h2⟩:=key w
       rw[h1,same w u h2]
      obtain⟨u,h1,h2⟩:=key w
      rw[←same w u h2];exact h2
section
variable {P:Program} {ops:Array Oper} {n:Nat} {C:World→Prop} {K:Act→Prop} {L:Fr} {a:Act} {w0:World} {M:Mem} {H:List Ent}
theorem Q_runs (wd:World): ∀ (l rest:List Oper) (L L':Fr) (a:Act),Frm n L a dd→(∀w,runQ P ops n l L w=some (L',List.replicate l.length w))→(∀a',Frm n L' a' dd→wpQuiet P ops C K rest a')→wpQuiet P ops C K (l++rest) a
 |[],rest,L,L',a,hf,h,hk=>by
  have:=h wd
  simp only[runQ,Option.some.injEq,Prod.mk.injEq] at this
  exact hk a (this.1▸hf)
 |o::os,rest,L,L',a,hf,h,hk=>by
  obtain⟨d,h1,h2,h3⟩:=tN (wd:=wd) h
  have hdn:Nat.blt d n=true:=by simpa [Nat.blt_eq] using h2
  rcases h3 with⟨hw,h4⟩|⟨hw,hr,v,hx,h4⟩
  ·exact Q_not hf hw h1 hdn λa' fa=>Q_runs wd os rest _ L' a' fa h4 hk
  exact Q_eq hf hw hr h1 hdn (λw _=>hx w) λa' fa=>Q_runs wd os rest _ L' a' fa h4 hk
theorem Q_run {l:List Oper} (wd:World) (hf:Frm n L a dd) (m:Nat) (h: ∀w,runQ P ops n (l.take m) L w=some (qF P ops n (l.take m) L wd,List.replicate (l.take m).length w)) (hk: ∀a',Frm n (qF P ops n (l.take m) L wd) a' dd→wpQuiet P ops C K (l.drop m) a'):wpQuiet P ops C K l a:=by
 have:=Q_runs (C:=C) (K:=K) wd (l.take m) (l.drop m) L _ a hf h hk
 rwa [List.take_append_drop] at this
theorem Y2 {l:List Oper} (wd:World) (hf:Frm n L a dd) (m:Nat) (hk: ∀a',Frm n (qF P ops n (l.take m) L wd) a' dd→wpQuiet P ops C K (l.drop m) a') (h: ∀w,runQ P ops n (l.take m) L w=some (qF P ops n (l.take m) L wd,List.replicate (l.take m).length w):=by intro _;kernel_rfl):wpQuiet P ops C K l a:=Q_run wd hf m h hk
theorem gx {o:Oper} {rest:List Oper} {base:Addr} {cs:Lv} {v:Value} (hf:Frm n L a dd) (hc: ∀j u,cs[j]? =some u→M.cell? (base.add j)=some u) (i:Nat) (hv:cs[i]? =some v)
 (hB:okO ops n L o=true) (hx:ldO P L o=some (.pointer (some (base.add i)))) (hk: ∀a',Frm n ((dstO o,v)::L) a' dd→wpQuiet P ops (λw=>Hp w0 M H w) K rest a'):wpQuiet P ops (λw=>Hp w0 M H w) K (o::rest) a:=by
 obtain⟨h1,h2,h3,h4⟩:=jH hB
 obtain⟨t,x,e1,e2,e3⟩:=ldO_spec hx
 exact Q_eq hf h1 h2 h3 h4 (λw hp=>eo e1 e3 e2 (hp.cell (hc i v hv))) hk
theorem bD {o:Oper} {rest:List Oper} {v:Value} (hf:Frm n L a dd) (hB:okO ops n L o=true) (hx: ∀w,C w→(execOp (ev L) o).run P w=.ok (.value v) w) (hk: ∀a',Frm n ((dstO o,v)::L) a' dd→wpQuiet P ops C K rest a'):wpQuiet P ops C K (o::rest) a:=by
 obtain⟨h1,h2,h3,h4⟩:=jH hB
 exact Q_eq hf h1 h2 h3 h4 hx hk
theorem ls {o:Oper} {rest:List Oper} {f:FuncId} {args:Lv} {v:Value} (hf:Frm n L a dd) (hc:Ok P M f args λ_ u=>u=v) (hB:okO ops n L o=true) (hx: ∀w,(execOp (ev L) o).run P w=.ok (.enter f args.toArray) w)
 (hk: ∀a',Frm n ((dstO o,v)::L) a' dd→wpQuiet P ops (λw=>Hp w0 M H w) K rest a'):wpQuiet P ops (λw=>Hp w0 M H w) K (o::rest) a:=by
 obtain⟨h1,h2,h3,h4⟩:=jH hB
 exact Q_okv hf h1 h2 h3 h4 hx hc hk
end
section
variable {P:Program} {ops:Array Oper} {n:Nat} {Q:Exit→Act→World→Prop} {L:Fr} {a:Act} {w0:World} {M:Mem} {Hr:List Ent} {i:Mem×List Ent}
theorem M_runs (wd:World): ∀ (l:List Oper) (rest:List (Bool×Oper)) (L L':Fr) (a:Act),Frm n L a→(∀w,runQ P ops n l L w=some (L',List.replicate l.length w))→(∀a',Frm n L' a'→wpMix P ops Q (Cla w0 M Hr) rest a' i)→wpMix P ops Q (Cla w0 M Hr) (l.map (λo=>(true,o))++rest) a i
 |[],rest,L,L',a,hf,h,hk=>by
  have:=h wd
  simp only[runQ,Option.some.injEq,Prod.mk.injEq] at this
  exact hk a (this.1▸hf)
 |o::os,rest,L,L',a,hf,h,hk=>by
  obtain⟨d,h1,h2,h3⟩:=tN (wd:=wd) h
  have hdn:Nat.blt d n=true:=by simpa [Nat.blt_eq] using h2
  rcases h3 with⟨hw,h4⟩|⟨hw,hr,v,hx,h4⟩
  ·exact M_not hf hw h1 hdn λa' fa=>M_runs wd os rest _ L' a' fa h4 hk
  exact bG hf hw hr h1 hdn (λw _=>hx w) λa' fa=>M_runs wd os rest _ L' a' fa h4 hk
def qops (l:List (Bool×Oper)):List Oper:=l.map (·.2)
def allQ (l:List (Bool×Oper)):Bool:=l.all (·.1)
theorem qops_map {l:List (Bool×Oper)} (h:allQ l=true): (qops l).map (λo=>(true,o))=l:=by
 induction l with
 |nil=>rfl
 |cons p r ih=>
  obtain⟨b,o⟩:=p
  simp only[allQ,List.all_cons,Bool.and_eq_true] at h
  obtain⟨rfl,h2⟩:=h
  show(true,o)::(qops r).map _=_
  rw[ih h2]
theorem M_run {l:List (Bool×Oper)} (wd:World) (hf:Frm n L a) (m:Nat) (hq:allQ (l.take m)=true) (h: ∀w,runQ P ops n (qops (l.take m)) L w=some (qF P ops n (qops (l.take m)) L wd,List.replicate (qops (l.take m)).length w)) (hk: ∀a',Frm n (qF P ops n (qops (l.take m)) L wd) a'→wpMix P ops Q (Cla w0 M Hr) (l.drop m) a' i):wpMix P ops Q (Cla w0 M Hr) l a i:=by
 have:=M_runs (Q:=Q) (w0:=w0) (M:=M) (Hr:=Hr) (i:=i) wd (qops (l.take m)) (l.drop m) L _ a hf h hk
 rwa [qops_map hq,List.take_append_drop] at this
theorem Y0 {l:List (Bool×Oper)} (wd:World) (hf:Frm n L a) (m:Nat) (hk: ∀a',Frm n (qF P ops n (qops (l.take m)) L wd) a'→wpMix P ops Q (Cla w0 M Hr) (l.drop m) a' i) (hq:allQ (l.take m)=true:=by kernel_rfl) (h: ∀w,runQ P ops n (qops (l.take m)) L w=some (qF P ops n (qops (l.take m)) L wd,List.replicate (qops (l.take m)).length w):=by intro _;kernel_rfl):wpMix P ops Q (Cla w0 M Hr) l a i:=M_run wd hf m hq h hk
end
section
variable {P:Program} {l:List Oper} {ks:List Nat} {n:Nat} {Q:Exit→Act→World→Prop} {L:Fr} {a:Act} {w0 w:World} {M:Mem} {Hr:List Ent} {i:Mem×List Ent}
theorem N_goN {p:Plan} {M1:Mem} {H:List Ent} (k:Nat) (hM:M.le M1) (hp:Hp w0 M1 H w) (hH:H.drop k=Hr) (h:wpPlan P l ks Q (Cla w0 M Hr) p a (M1,H.take k)):
 mixQ Q (λa' w'=>∃i',Cla w0 M Hr i' w'∧wpPlan P l ks Q (Cla w0 M Hr) p a' i') .normal a w:=by
 subst hH
 exact⟨(M1,H.take k),⟨hM,by rw[List.take_append_drop];exact hp⟩,h⟩
end
theorem sI {α:Type} {a b:α} (h:some a=some b):a=b:=Option.some.inj h
theorem dI {p:Prop} [Decidable p]:decide p=true↔p:=decide_eq_true_iff
theorem bS {α β:Type} {x:Option α} {f:α→Option β} {r:β} (h:x.bind f=some r): ∃v,x=some v∧f v=some r:=bind_some' h
theorem bE (b:Bool):b=true∨b=false:=Bool.eq_false_or_eq_true b
theorem mR (M:Mem):M.le M:=Mem.le_refl M
theorem nS {α:Type} {p:Prop} [Decidable p] {y:Option α} {r:α} (h:aL p y=some r):p∧y=some r:=ov h
theorem Frm.st {n:Nat} {L:Fr} {a:Act} {dd:List Deferred} {v v':Value} (h:Frm n L a dd) (k:Nat) (e:v=v') (hl:Go.Vc.look L k=some v:=by kernel_rfl):Frm n ((k,v')::L) a dd:=h.set k hl e
theorem Frm.kp {n:Nat} {L K:Fr} {a:Act} {dd:List Deferred} (h:Frm n L a dd) (hk:Go.Vc.keep (K.map (·.1)) L=some K:=by kernel_rfl):Frm n K a dd:=h.keep hk
theorem cE {α:Type} {b:Bool} {x y r:α} (h: (bif b then x else y)=r): (b=true∧x=r)∨(b=false∧y=r):=by
 cases b
 · exact .inr ⟨rfl,h⟩
 exact .inl ⟨rfl,h⟩
theorem cB {a b:Bool} (h:a=b):Value.bool a=Value.bool b:=congrArg Value.bool h
theorem iW {k:IntKind} {x:Int} (h:inR k x):Value.int k (k.wrap x)=Value.int k x:=congrArg (Value.int k) (inR_wrap h)
section
variable {P:Program} {w0 w:World} {M:Mem} {H:List Ent} {e T:TypeId} {k:IntKind}
end
section
variable {P:Program} {ops:Array Oper} {n:Nat} {Q:Exit→Act→World→Prop} {L:Fr} {a:Act} {w0 w:World} {M:Mem} {H:List Ent} {dd:List Deferred}
end
variable {dd:List Deferred}
def RepMap {κ δ:Type} (M:Mem) (emb:δ→Dat):List (κ×δ)→List (κ×Value)→Prop
 |[],m=>m=[]
 |p::r,m=>∃cs m',m=(p.1,Value.agg cs.toArray)::m'∧Rep M (emb p.2) cs∧RepMap M emb r m'
section
variable {κ δ:Type} {M M':Mem} {emb:δ→Dat}
theorem RepMap.mono (h:M.le M'): ∀ {d:List (κ×δ)} {m:List (κ×Value)},RepMap M emb d m→RepMap M' emb d m
 |[],_,hr=>hr
 |p::r,m,⟨cs,m',h1,h2,h3⟩=>⟨cs,m',h1,Rep.mono h _ _ h2,RepMap.mono h h3⟩
theorem RepMap.nil:RepMap M emb ([]:List (κ×δ)) []:=rfl
variable [DecidableEq κ]
theorem RepMap.put {k:κ} {x:δ} {cs:Lv} (hx:Rep M (emb x) cs): ∀ {d:List (κ×δ)} {m:List (κ×Value)},RepMap M emb d m→RepMap M emb (bJ d k x) (bJ m k (.agg cs.toArray))
 |[],m,h=>by
  have:m=[]:=h
  subst this
  exact⟨cs,[],rfl,hx,rfl⟩
 |p::r,m,⟨c,m',h1,h2,h3⟩=>by
  subst h1
  unfold bJ
  by_cases hk:p.1=k
  ·rw[if_pos hk,if_pos hk]
   exact⟨cs,m',rfl,hx,h3⟩
  rw[if_neg hk,if_neg hk]
  exact⟨c,_,rfl,h2,RepMap.put hx h3⟩
end
theorem Hp.fzObj {w0 w:World} {M:Mem} {H:List Ent} {b:Nat} {o:Obj} (h:Hp w0 M (.obj b o::H) w): ∃M',M.le M'∧Hp w0 M' H w∧M' b=some o:=
 ⟨_,h.freeze.1,h.freeze.2,by simp[Mem.add]⟩
section
variable {κ:Type} [DecidableEq κ] {P:Program} {ek:κ→Value} {w:World}
end
section
variable {α:Type}
end
section
variable {π σ β:Type}
variable {E:σ→Option (Lp σ β)} {Y:π→σ→Option (Lp σ β)} {m:List π} {seen:Array Nat} {s:σ} {b:β}
end
section
variable {κ V:Type} {ek:κ→Value} {ev:V→Value} {P:Program} {ops:Array Oper} {n:Nat} {Q:Exit→Act→World→Prop} {L:Fr} {a:Act} {w0 w:World} {M:Mem} {H:List Ent}
def KMapAt (M:Mem) (o:Option Nat) (ek:κ→Value) (ev:V→Value) (m:List (κ×V)):Prop:=(∃b,o=some b∧M b=some (sR ek ev m))∨(o=none∧m=[])
theorem KMapAt.mono {M M':Mem} (h:M.le M') {o:Option Nat} {m:List (κ×V)}:KMapAt M o ek ev m→KMapAt M' o ek ev m
 |.inl ⟨b,h1,h2⟩=>.inl ⟨b,h1,h _ _ h2⟩
 |.inr h1=>.inr h1
end
section
variable {P:Program} {w:World} {ρ:Operand→Value} {o:Oper}
end
section
variable {α:Type} {M:Mem} {sz:Nat} {f:α→Dat} {A:Oa} {cap:Nat} {xs:List α}
end
section
variable {α:Type} {P:Program} {ops:Array Oper} {n:Nat} {Q:Exit→Act→World→Prop} {L:Fr} {a:Act} {w0 w:World} {M:Mem} {H:List Ent} {sz:Nat} {f:α→Dat} {dd:List Deferred}
end
section
variable {P:Program} {w:World} {d:Nat} {xs ys:Array Value}
def FEq (P:Program) (d:Nat) (xs ys:Array Value) (w:World):List (TypeId×Nat)→List Bool→Prop
 |[],[]=>True
 |(t,o)::s,r::rs=>(∃a b,(part t xs o).run P w=.ok a w∧(part t ys o).run P w=.ok b w∧(Op.equalIn d t a b).run P w=.ok r w)∧FEq P d xs ys w s rs
 |_,_=>False
def fieldsAre:List Field→List (TypeId×Nat)→Bool
 |[],[]=>true
 |f::fs,(t,o)::s=>f.name != "_"&& (Nat.beq f.type t&& (Nat.beq f.offset o&&fieldsAre fs s))
 |_,_=>false
def andL:List Bool→Bool
 |[]=>true
 |[r]=>r
 |r::rs=>r&&andL rs
theorem andL_cons (r:Bool) (rs:List Bool):andL (r::rs)=(r&&andL rs):=by cases rs<;>simp[andL]
theorem FEq.run: ∀ {fs:List Field} {s:List (TypeId×Nat)} {rs:List Bool},fieldsAre fs s=true→FEq P d xs ys w s rs→(Op.eqFields d xs ys fs).run P w=.ok (andL rs) w
 |[],[],[],_,_=>by simp[Op.eqFields,andL]
 |f::fs,(t,o)::s,r::rs,h,⟨⟨a,b,ha,hb,hr⟩,h2⟩=>by
  simp only[fieldsAre,Bool.and_eq_true,bne_iff_ne] at h
  obtain⟨h1,h3,h4,h5⟩:=h
  have e1:=Nat.eq_of_beq_eq_true h3
  have e2:=Nat.eq_of_beq_eq_true h4
  subst e1;subst e2
  have ih:=FEq.run h5 h2
  rw[andL_cons]
  simp only[Op.eqFields,h1,ne_eq,not_false_eq_true,if_true,Sem.run_bind,ha,hb,hr,Result.andThen_ok]
  cases r
  ·simp
  simpa using ih
 |[],[],_::_,_,h=>h.elim
 |[],_::_,_,h,_=>by simp[fieldsAre] at h
 |_::_,[],_,h,_=>by simp[fieldsAre] at h
 |_::_,_::_,[],_,h=>h.elim
end
section
variable {κ V:Type} {P:Program} {w:World} {ek:κ→Value} {ev:V→Value}
end
section
variable {α:Type} {P:Program} {ops:Array Oper} {n:Nat} {Q:Exit→Act→World→Prop} {L:Fr} {a:Act} {w0 w:World} {M:Mem} {H:List Ent} {sz:Nat} {f:α→Dat} {dd:List Deferred}
end
end Go.Vc
end
section
namespace Go.Vc
open Go Go.RowKit Go.Sort
section
variable {α:Type}
end
section
variable {α:Type} {P:Program} {ops:Array Oper} {n:Nat} {Q:Exit→Act→World→Prop} {L:Fr} {a:Act} {w0 w:World} {M:Mem} {H:List Ent} {sz:Nat} {f:α→Dat} {dd:List Deferred}
end
theorem strs_eq_ {M:Mem}: ∀ {xs:List Bs} {cs:Lv},ae M (xs.map Dat.str) cs→cs=xs.map S
 |[],_,h=>h
 |x::r,_,⟨c,c',e1,e2,h⟩=>by
  subst e1
  have e3:c=[S x]:=e2
  rw[e3,strs_eq_ h];rfl
theorem dD {M:Mem}: ∀xs:List Bs,ae M (xs.map Dat.str) (xs.map S)
 |[]=>rfl
 |x::r=>⟨[S x],_,rfl,rfl,dD r⟩
end Go.Vc
end
section
namespace Go.Vc
open Go Go.RowKit
variable {dd:List Deferred}
def flawE (T:Nat) (x:Int×Bs):List PanicEntry:=[{v:=.iface T (.agg #[.int .i64 x.1,S x.2]),recovered:=false}]
def OkX {ρ:Type} (P:Program) (M:Mem) (f:FuncId) (args:Lv) (T:Nat) (r:Sum (Int×Bs) ρ) (Post:ρ→Mem→Value→Prop):Prop:=
 ∀M2,M.le M2→∀w0 H w,Hp w0 M2 H w→Calls P f args.toArray w λe w'=>match r with
  |.inl x=>∃M',M2.le M'∧Hp w0 M' H w'∧e=.panicked (flawE T x)
  |.inr y=>∃v,e=.returned v∧∃M',M2.le M'∧Hp w0 M' H w'∧Post y M' v
def OkXH {ρ:Type} (P:Program) (M:Mem) (E:List Ent) (f:FuncId) (args:Lv) (T:Nat) (r:Sum (Int×Bs) ρ) (Post:ρ→Mem→List Ent→Value→Prop):Prop:=
 ∀M2,M.le M2→∀w0 H w,Hp w0 M2 (E++H) w→Calls P f args.toArray w λe w'=>match r with
  |.inl x=>∃M',M2.le M'∧Hp w0 M' H w'∧e=.panicked (flawE T x)
  |.inr y=>∃v,e=.returned v∧∃M' E',M2.le M'∧Hp w0 M' (E'++H) w'∧Post y M' E' v
section
variable {ρ:Type} {P:Program} {M:Mem} {E:List Ent} {f:FuncId} {args:Lv} {T:Nat}
theorem OkX.ok {y:ρ} {Post:ρ→Mem→Value→Prop} (h:OkX P M f args T (.inr y) Post):Ok P M f args (Post y):=h
theorem OkXH.ok {y:ρ} {Post:ρ→Mem→List Ent→Value→Prop} (h:OkXH P M E f args T (.inr y) Post):OkH P M E f args (Post y):=h
end
section
variable {P:Program} {ops:Array Oper} {n:Nat} {Q:Exit→Act→World→Prop} {L:Fr} {a:Act} {w0 w:World} {M:Mem} {H:List Ent} {ρ:Type} {T:Nat}
theorem W_callP {o:Oper} {rest:List Oper} {f:FuncId} {args:Array Value} {R:List PanicEntry→World→Prop} (hf:Frm n L a dd) (hw:bi ops L o=some true) (hr:bW L o=true)
 (hx: (execOp (ev L) o).run P w=.ok (.enter f args) w) (hc:Calls P f args w λe w'=>∃ch,e=.panicked ch∧R ch w')
 (hk: ∀ch w',R ch w'→Q (.panic ch) a w'):wpList P ops Q (o::rest) a w:=by
 simp only[wpList]
 rw[hf.wanted hw]
 refine .inl ?_
 unfold Oper.wp
 rw[hf.exec hr,hx]
 refine hc.mono λe w' he=>?_
 obtain⟨v,rfl,hR⟩:=he
 exact hk v w' hR
theorem aN {o:Oper} {rest:List Oper} {f:FuncId} {args:Lv} {x:Int×Bs} {Post:ρ→Mem→Value→Prop} (hf:Frm n L a dd) (hp:Hp w0 M H w) (hc:OkX P M f args T (.inl x) Post) (hB:okO ops n L o=true) (hx: ∀w,(execOp (ev L) o).run P w=.ok (.enter f args.toArray) w)
 (hk: ∀M' w',M.le M'→Hp w0 M' H w'→Q (.panic (flawE T x)) a w'):wpList P ops Q (o::rest) a w:=by
 obtain⟨h1,h2,-,-⟩:=jH hB
 refine W_callP (R:=λch w'=>ch=flawE T x∧∃M',M.le M'∧Hp w0 M' H w') hf h1 h2 (hx w) ((hc M (Mem.le_refl M) w0 H w hp).mono λe w' ⟨M',g1,g2,g3⟩=>⟨_,g3,rfl,M',g1,g2⟩) λch w' ⟨g1,M',g2,g3⟩=>?_
 subst g1
 exact hk M' w' g2 g3
theorem V_okXHp {o:Oper} {rest:List Oper} {f:FuncId} {args:Lv} {E:List Ent} {x:Int×Bs} {Post:ρ→Mem→List Ent→Value→Prop} (hf:Frm n L a dd) (hp:Hp w0 M (E++H) w) (hc:OkXH P M E f args T (.inl x) Post) (hB:okO ops n L o=true) (hx: ∀w,(execOp (ev L) o).run P w=.ok (.enter f args.toArray) w)
 (hk: ∀M' w',M.le M'→Hp w0 M' H w'→Q (.panic (flawE T x)) a w'):wpList P ops Q (o::rest) a w:=by
 obtain⟨h1,h2,-,-⟩:=jH hB
 refine W_callP (R:=λch w'=>ch=flawE T x∧∃M',M.le M'∧Hp w0 M' H w') hf h1 h2 (hx w) ((hc M (Mem.le_refl M) w0 H w hp).mono λe w' ⟨M',g1,g2,g3⟩=>⟨_,g3,rfl,M',g1,g2⟩) λch w' ⟨g1,M',g2,g3⟩=>?_
 subst g1
 exact hk M' w' g2 g3
theorem W_panic {o:Oper} {rest:List Oper} {v:Value} (hf:Frm n L a dd) (hw:bi ops L o=some true) (hr:bW L o=true) (hx: (execOp (ev L) o).run P w=.halt (.panic v) w) (h:Q (.panic [{v,recovered:=false}]) a w):wpList P ops Q (o::rest) a w:=by
 simp only[wpList]
 rw[hf.wanted hw]
 refine .inl ?_
 unfold Oper.wp
 rw[hf.exec hr,hx]
 exact h
end
section
variable {P:Program} {Q:Exit→Act→World→Prop} {a:Act} {w:World} {ch:List PanicEntry} {fn:Func} {R:Ending→World→Prop} {n:Nat} {L:Fr}
theorem cj {K:Act→World→Prop} (h:Q (.panic ch) a w):Exit.then K Q (.panic ch) a w:=h
theorem oP {i:Nat} (h:Q (.panic ch) a w):Exit.inBlock i Q (.panic ch) a w:=h
theorem aV (hf:Frm n L a) (h:R (.panicked ch) w):bodyPost P fn R (.panic ch) a w:=⟨hf.defers,h⟩
end
end Go.Vc
namespace Go.Vc
open Go Go.RowKit
theorem Frm.sim {n:Nat} {L:Fr} {a a':Act} {dd:List Deferred} (hf:Frm n L a dd) (h1:a'.tmps.size=a.tmps.size) (h2:a'.defers=a.defers):Frm n [] a' dd:=
 ⟨h1.trans hf.size,h2.trans hf.defers,λt v h=>by cases h⟩
theorem pm {n:Nat} {L:Fr} {a:Act} {dd:List Deferred} {Q:Exit→Act→World→Prop} {K:Act→World→Prop} {ch:List PanicEntry} {w:World} (hf:Frm n L a dd) (h: ∀a',Frm n [] a' dd→Q (.panic ch) a' w):mixQ Q K (.panic ch) a w:=
 λa' h1 h2=>h a' (hf.sim h1 h2)
end Go.Vc
namespace Go.Vc
open Go
def fnV:Option Nat→Value
 |some k=>.func (.func k) #[] #[]
 |none=>.nilFunc
end Go.Vc
end
