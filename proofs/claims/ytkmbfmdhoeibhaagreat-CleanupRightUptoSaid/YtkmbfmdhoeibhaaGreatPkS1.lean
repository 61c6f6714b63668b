/-
  Texts of this claim, packed (what nothing names is left out): VkA, Vo, Vp, Vo2, Tt, VkB, Ty, Sz, VkC, VkD, VkE, VkF, VkJ. Own work, partly printed by own programs. No condition.
-/
import Derived.WalkKit
import Derived.Deep.Quiet
import Derived.Below
import Derived.Deep.Draws
import Derived.Laws.OwnMore
import Derived.Laws.Rows
import Derived.Laws.IdiomStrings
import Derived.Laws.BytesString
import Derived.Laws.BytesArg
import Derived.Lib.Strings
import Derived.Deep.LoopGhost
import Derived.Maps.AppendAt
import Derived.OwnWalk
import Derived.IntWalk
import Derived.ArgAppend
import Derived.Sort.Grow
import Derived.Deep.OwnRows
import Derived.StillTail
import Derived.Deep.AppendSrc
import Derived.Deep.Upon
import Derived.ChangeArms
import Derived.Carry
import Derived.Lib.Builder
import Derived.Lib.UnsafeStr
import Derived.Shelf.Unicode.DecodeSlow
import Derived.Lib.TrimUEq
import Derived.OrdersIn
import Derived.TacticsIn
import Derived.RangeFuncIn
import Derived.RangeFuncRecord
import Derived.RangeFuncLeaves
set_option linter.unusedVariables false
set_option linter.unusedSimpArgs false
set_option maxHeartbeats 2000000
section
namespace Go.Vc
open Go
section
variable {α : Type}
abbrev _root_.iL (x : Int) : Value := .int .i64 x
abbrev _root_.iB (x : Int) : Value := .int .i8 x
abbrev _root_.bO (x : Bool) : Value := .bool x
abbrev _root_.sL (A : Option Addr) (x : List α) (c : Nat) : Value := .slice A x.length c
abbrev _root_.pP (b : Nat) : Value := .pointer (some ⟨b, 0, none⟩)
end
abbrev _root_.Prod.t3 {a0 a1 a2 a3 : Type} (p : a0 × a1 × a2 × a3) := p.2.2.2
abbrev _root_.Prod.t4 {a0 a1 a2 a3 a4 : Type} (p : a0 × a1 × a2 × a3 × a4) := p.2.2.2.2
abbrev _root_.Prod.t5 {a0 a1 a2 a3 a4 a5 : Type} (p : a0 × a1 × a2 × a3 × a4 × a5) := p.2.2.2.2.2
abbrev _root_.Prod.t6 {a0 a1 a2 a3 a4 a5 a6 : Type} (p : a0 × a1 × a2 × a3 × a4 × a5 × a6) := p.2.2.2.2.2.2
abbrev _root_.Prod.t7 {a0 a1 a2 a3 a4 a5 a6 a7 : Type} (p : a0 × a1 × a2 × a3 × a4 × a5 × a6 × a7) := p.2.2.2.2.2.2.2
abbrev _root_.Prod.t8 {a0 a1 a2 a3 a4 a5 a6 a7 a8 : Type} (p : a0 × a1 × a2 × a3 × a4 × a5 × a6 × a7 × a8) := p.2.2.2.2.2.2.2.2
abbrev _root_.Prod.t9 {a0 a1 a2 a3 a4 a5 a6 a7 a8 a9 : Type} (p : a0 × a1 × a2 × a3 × a4 × a5 × a6 × a7 × a8 × a9) := p.2.2.2.2.2.2.2.2.2
abbrev _root_.Prod.t10 {a0 a1 a2 a3 a4 a5 a6 a7 a8 a9 a10 : Type} (p : a0 × a1 × a2 × a3 × a4 × a5 × a6 × a7 × a8 × a9 × a10) := p.2.2.2.2.2.2.2.2.2.2
abbrev _root_.Prod.t11 {a0 a1 a2 a3 a4 a5 a6 a7 a8 a9 a10 a11 : Type} (p : a0 × a1 × a2 × a3 × a4 × a5 × a6 × a7 × a8 × a9 × a10 × a11) := p.2.2.2.2.2.2.2.2.2.2.2
abbrev _root_.Prod.t12 {a0 a1 a2 a3 a4 a5 a6 a7 a8 a9 a10 a11 a12 : Type} (p : a0 × a1 × a2 × a3 × a4 × a5 × a6 × a7 × a8 × a9 × a10 × a11 × a12) := p.2.2.2.2.2.2.2.2.2.2.2.2
abbrev _root_.Prod.t13 {a0 a1 a2 a3 a4 a5 a6 a7 a8 a9 a10 a11 a12 a13 : Type} (p : a0 × a1 × a2 × a3 × a4 × a5 × a6 × a7 × a8 × a9 × a10 × a11 × a12 × a13) := p.2.2.2.2.2.2.2.2.2.2.2.2.2
abbrev _root_.Prod.t14 {a0 a1 a2 a3 a4 a5 a6 a7 a8 a9 a10 a11 a12 a13 a14 : Type} (p : a0 × a1 × a2 × a3 × a4 × a5 × a6 × a7 × a8 × a9 × a10 × a11 × a12 × a13 × a14) := p.2.2.2.2.2.2.2.2.2.2.2.2.2.2
abbrev _root_.Prod.t15 {a0 a1 a2 a3 a4 a5 a6 a7 a8 a9 a10 a11 a12 a13 a14 a15 : Type} (p : a0 × a1 × a2 × a3 × a4 × a5 × a6 × a7 × a8 × a9 × a10 × a11 × a12 × a13 × a14 × a15) := p.2.2.2.2.2.2.2.2.2.2.2.2.2.2.2
abbrev _root_.Prod.t16 {a0 a1 a2 a3 a4 a5 a6 a7 a8 a9 a10 a11 a12 a13 a14 a15 a16 : Type} (p : a0 × a1 × a2 × a3 × a4 × a5 × a6 × a7 × a8 × a9 × a10 × a11 × a12 × a13 × a14 × a15 × a16) := p.2.2.2.2.2.2.2.2.2.2.2.2.2.2.2.2
abbrev _root_.Prod.t17 {a0 a1 a2 a3 a4 a5 a6 a7 a8 a9 a10 a11 a12 a13 a14 a15 a16 a17 : Type} (p : a0 × a1 × a2 × a3 × a4 × a5 × a6 × a7 × a8 × a9 × a10 × a11 × a12 × a13 × a14 × a15 × a16 × a17) := p.2.2.2.2.2.2.2.2.2.2.2.2.2.2.2.2.2
abbrev _root_.Prod.t18 {a0 a1 a2 a3 a4 a5 a6 a7 a8 a9 a10 a11 a12 a13 a14 a15 a16 a17 a18 : Type} (p : a0 × a1 × a2 × a3 × a4 × a5 × a6 × a7 × a8 × a9 × a10 × a11 × a12 × a13 × a14 × a15 × a16 × a17 × a18) := p.2.2.2.2.2.2.2.2.2.2.2.2.2.2.2.2.2.2
abbrev _root_.Prod.t19 {a0 a1 a2 a3 a4 a5 a6 a7 a8 a9 a10 a11 a12 a13 a14 a15 a16 a17 a18 a19 : Type} (p : a0 × a1 × a2 × a3 × a4 × a5 × a6 × a7 × a8 × a9 × a10 × a11 × a12 × a13 × a14 × a15 × a16 × a17 × a18 × a19) := p.2.2.2.2.2.2.2.2.2.2.2.2.2.2.2.2.2.2.2
abbrev _root_.Prod.t20 {a0 a1 a2 a3 a4 a5 a6 a7 a8 a9 a10 a11 a12 a13 a14 a15 a16 a17 a18 a19 a20 : Type} (p : a0 × a1 × a2 × a3 × a4 × a5 × a6 × a7 × a8 × a9 × a10 × a11 × a12 × a13 × a14 × a15 × a16 × a17 × a18 × a19 × a20) := p.2.2.2.2.2.2.2.2.2.2.2.2.2.2.2.2.2.2.2.2
theorem _root_.kr {p : Prop} (h : p := by kernel_rfl) : p := h
theorem _root_.dT {p : Prop} [h' : Decidable p] (h : p) : decide p = true := decide_eq_true h
theorem _root_.dF {p : Prop} [h' : Decidable p] (h : ¬ p) : decide p = false := decide_eq_false h
theorem _root_.nT : (!true) = false := rfl
theorem _root_.nF : (!false) = true := rfl
abbrev _root_.qN : Value := .slice none 0 0
abbrev _root_.Pa (a : Addr) : Value := .pointer (some a)
abbrev _root_.Bs := List UInt8
abbrev _root_.Lv := List Value
abbrev _root_.Oa := Option Addr
theorem _root_.Bz : (∀ b, (b && true) = b) ∧ (∀ b, (true && b) = b) ∧ (∀ b, (false && b) = false) ∧ (∀ b, (b && false) = false) ∧ (∀ b, (b || true) = true) ∧ (∀ b, (true || b) = true) ∧ (∀ b, (b || false) = b) ∧ (∀ b, (false || b) = b) ∧ (!true) = false ∧ (!false) = true ∧ (∀ {α : Type} (x y : α), cond true x y = x) ∧ (∀ {α : Type} (x y : α), cond false x y = y) := by simp
abbrev _root_.CD := List Int
abbrev _root_.CE := List Bool
variable {dd:List Deferred}
abbrev Fr:=List (Nat×Value)
def look:Fr→Nat→Option Value|[],_=>none|(s,v)::r,t=>bif Nat.beq s t then some v else look r t
theorem Lk {L : Fr} (k : Nat) (v : Value) (h : Go.Vc.look L k = some v := by kernel_rfl) : Go.Vc.look L k = some v := h
def ev (L:Fr):Operand→Value|.tmp t=>(look L t).getD undef|.const v=>v|.global g=>.pointer (some ⟨g,0,none⟩)|.func f=>.func (.func f) #[] #[]
def has (L:Fr):Operand→Bool|.tmp t=>(look L t).isSome|_=>true
def bv (ops:Array Oper) (L:Fr) (o:Oper):Option Bool:=match o.guard with|none=>some true|some (j,want)=>match ((ops[j]?).bind (·.dst)).bind (look L) with|some (.bool b)=>some (b==want)|some _=>some false|none=>none
variable (n:Nat)
def putL (L:Fr) (d:Option Nat) (v:Value):Option Fr:=match d with|none=>some L|some d=>bif Nat.blt d n then some ((d,v)::L) else none
def noSelect (o:Oper):Bool:=match o.op with|.select .. =>false|_=>true
def bX (L:Fr) (o:Oper):Bool:=o.op.operands.toList.all (has L)&&noSelect o
def runL (P:Program) (ops:Array Oper) (n:Nat):List Oper→Fr→World→Option (Fr×World)|[],L,w=>some (L,w)|o::os,L,w=>match bv ops L o with|none=>none|some false=>(putL n L o.dst undef).bind λL'=>runL P ops n os L' w|some true=>bif bX L o then match (execOp (ev L) o).run P w with|.ok (.value v) w'=>(putL n L o.dst v).bind λL'=>runL P ops n os L' w'|.ok .skip w'=>(putL n L o.dst undef).bind λL'=>runL P ops n os L' w'|_=>none else none
def keep:List Nat→Fr→Option Fr|[],_=>some []|k::ks,L=>match look L k,keep ks L with|some v,some r=>some ((k,v)::r)|_,_=>none
def runK (P:Program) (ops:Array Oper) (n:Nat) (l:List Oper) (ks:List Nat) (L:Fr) (w:World):Option (Fr×World):=(runL P ops n l L w).bind λr=>(keep ks r.1).map λK=>(K,r.2)
structure Frm (n:Nat) (L:Fr) (a:Act) (dd:List Deferred:=[]):Prop where
 size:a.tmps.size=n
 defers:a.defers=dd
 at_: ∀t v,look L t=some v→a.tmps[t]? =some v
section
variable {n:Nat} {L L':Fr} {a:Act}
theorem beq_ne {a b:Nat} (h: ¬a=b):Nat.beq a b=false:=by
 cases h':Nat.beq a b with
 |false=>rfl
 |true=>exact absurd (Nat.eq_of_beq_eq_true h') h
theorem Frm.ev (h:Frm n L a dd) {x:Operand} (hx:has L x=true):a.eval x=ev L x:=by
 cases x with
 |tmp t=>
  simp only[has] at hx
  obtain⟨v,hv⟩:=Option.isSome_iff_exists.1 hx
  have:=h.at_ t v hv
  simp[Act.eval,Vc.ev,hv,this]
 |const v=>rfl
 |global g=>rfl
 |func f=>rfl
theorem Frm.exec (h:Frm n L a dd) {o:Oper} (hr:bX L o=true):execOp a.eval o=execOp (Vc.ev L) o:=by
 simp only[bX,Bool.and_eq_true,List.all_eq_true] at hr
 refine execOp_congr o (λcs b e=>?_) (λx hx=>h.ev (hr.1 x (by simpa using hx)))
 have:=hr.2
 simp[noSelect,e] at this
theorem Frm.wanted (h:Frm n L a dd) {ops:Array Oper} {o:Oper} {b:Bool} (hw:bv ops L o=some b):Region.wanted o (yielded ops a.tmps)=b:=by
 unfold bv at hw
 unfold Region.wanted
 cases hg:o.guard with
 |none=>simp only[hg] at hw ⊢;exact(Option.some.inj hw)
 |some jw=>
  obtain⟨j,want⟩:=jw
  simp only[hg] at hw ⊢
  unfold yielded
  cases ht: (ops[j]?).bind (·.dst) with
  |none=>simp[ht] at hw
  |some t=>
   simp only[ht,Option.bind_some] at hw ⊢
   cases hv:look L t with
   |none=>simp[hv] at hw
   |some v=>
    rw[h.at_ t v hv]
    simp only[hv] at hw
    cases v<;>simp_all
theorem Frm.put (h:Frm n L a dd) {d:Nat} (hd:d<n) (v:Value):Frm n ((d,v)::L) (a.put (some d) v) dd:=by
 refine⟨by simp[Act.put,h.size],by simp[Act.put,h.defers],λt u hu=>?_⟩
 simp only[look] at hu
 by_cases e:d=t
 ·subst e
  simp only[Nat.beq_refl,cond_true,Option.some.injEq] at hu
  subst hu
  simp[Act.put,h.size,hd]
 have:Nat.beq d t=false:=beq_ne e
 simp only[this,cond_false] at hu
 simp[Act.put,e,h.at_ t u hu]
theorem Frm.putL (h:Frm n L a dd) {d:Option Nat} {v:Value} (hp:putL n L d v=some L'):Frm n L' (a.put d v) dd:=by
 cases d with
 |none=>simp only[Vc.putL,Option.some.injEq] at hp;subst hp;exact h
 |some d=>
  simp only[Vc.putL] at hp
  cases hb:Nat.blt d n with
  |false=>simp[hb] at hp
  |true=>
   simp only[hb,cond_true,Option.some.injEq] at hp
   subst hp
   exact h.put (by simpa [Nat.blt_eq] using hb) v
theorem keep_look: ∀ {ks:List Nat} {K:Fr},keep ks L=some K→∀t v,look K t=some v→look L t=some v
 |[],K,h,t,v,hv=>by simp only[keep,Option.some.injEq] at h;subst h;simp[look] at hv
 |k::ks,K,h,t,v,hv=>by
  simp only[keep] at h
  split at h
  ·rename_i u r hu hr
   simp only[Option.some.injEq] at h
   subst h
   simp only[look] at hv
   by_cases e:k=t
   ·subst e
    simp only[Nat.beq_refl,cond_true,Option.some.injEq] at hv
    subst hv
    exact hu
   have:Nat.beq k t=false:=beq_ne e
   simp only[this,cond_false] at hv
   exact keep_look hr t v hv
  cases h
theorem Frm.keep (h:Frm n L a dd) {ks:List Nat} {K:Fr} (hk:keep ks L=some K):Frm n K a dd:=
 ⟨h.size,h.defers,λt v hv=>h.at_ t v (keep_look hk t v hv)⟩
theorem Frm.set (h:Frm n L a dd) (k:Nat) {v v':Value} (hl:look L k=some v) (e:v=v'):Frm n ((k,v')::L) a dd:=by
 subst e
 refine⟨h.size,h.defers,λt u hu=>?_⟩
 simp only[look] at hu
 by_cases e:k=t
 ·subst e
  simp only[Nat.beq_refl,cond_true,Option.some.injEq] at hu
  subst hu
  exact h.at_ _ _ hl
 have:Nat.beq k t=false:=beq_ne e
 simp only[this,cond_false] at hu
 exact h.at_ t u hu
end
section
variable {P:Program} {ops:Array Oper} {n:Nat} {Q:Exit→Act→World→Prop}
theorem wp_value {o:Oper} {a:Act} {w w':World} {K:Act→World→Prop} {v:Value} (h: (execOp a.eval o).run P w=.ok (.value v) w') (hk:K (a.put o.dst v) w'):o.wp P a w K Q:=by
 unfold Oper.wp;rw[h];exact hk
theorem wp_skip' {o:Oper} {a:Act} {w w':World} {K:Act→World→Prop} (h: (execOp a.eval o).run P w=.ok .skip w') (hk:K (a.put o.dst undef) w'):o.wp P a w K Q:=by
 unfold Oper.wp;rw[h];exact hk
theorem sO (rest:List Oper): ∀ (pre:List Oper) (L:Fr) (w:World) (a:Act),Frm n L a dd→∀L' w',runL P ops n pre L w=some (L',w')→
 (∀a',Frm n L' a' dd→wpList P ops Q rest a' w')→wpList P ops Q (pre++rest) a w
 |[],L,w,a,hf,L',w',hr,hk=>by
  simp only[runL,Option.some.injEq,Prod.mk.injEq] at hr
  obtain⟨rfl,rfl⟩:=hr
  exact hk a hf
 |o::os,L,w,a,hf,L',w',hr,hk=>by
  simp only[runL] at hr
  simp only[List.cons_append,wpList]
  cases hw:bv ops L o with
  |none=>simp[hw] at hr
  |some b=>
   rw[hf.wanted hw]
   cases b with
   |false=>
    simp only[hw] at hr
    obtain⟨L1,h1,h2⟩:=Option.bind_eq_some_iff.1 hr
    exact sO rest os L1 w _ (hf.putL h1) L' w' h2 hk
   |true=>
    simp only[hw] at hr
    cases hrd:bX L o with
    |false=>simp[hrd] at hr
    |true=>
     simp only[hrd,cond_true] at hr
     have he:=hf.exec hrd
     cases hx: (execOp (ev L) o).run P w with
     |halt x w1=>simp[hx] at hr
     |ok nx w1=>
      cases nx with
      |value v=>
       simp only[hx] at hr
       obtain⟨L1,h1,h2⟩:=Option.bind_eq_some_iff.1 hr
       exact .inl (wp_value (he▸hx) (sO rest os L1 w1 _ (hf.putL h1) L' w' h2 hk))
      |skip=>
       simp only[hx] at hr
       obtain⟨L1,h1,h2⟩:=Option.bind_eq_some_iff.1 hr
       exact .inl (wp_skip' (he▸hx) (sO rest os L1 w1 _ (hf.putL h1) L' w' h2 hk))
      |_=>simp[hx] at hr
theorem W_run {L:Fr} {a:Act} {w:World} {l:List Oper} {L':Fr} {w':World} (hf:Frm n L a dd) (m:Nat) (ks:List Nat)
 (h:runK P ops n (l.take m) ks L w=some (L',w')) (hk: ∀a',Frm n L' a' dd→wpList P ops Q (l.drop m) a' w'):wpList P ops Q l a w:=by
 obtain⟨r,h1,h2⟩:=Option.bind_eq_some_iff.1 h
 obtain⟨K,h3,h4⟩:=Option.map_eq_some_iff.1 h2
 simp only[Prod.mk.injEq] at h4
 obtain⟨rfl,rfl⟩:=h4
 have:=sO (Q:=Q) (l.drop m) (l.take m) L w a hf r.1 r.2 (by rw[h1]) (λa' ha'=>hk a' (ha'.keep h3))
 rwa [List.take_append_drop] at this
theorem Af {L:Fr} {a:Act} {w w':World} {o:Oper} {rest:List Oper} {v:Value} {d:Nat} (hf:Frm n L a dd) (hw:bv ops L o=some true) (hr:bX L o=true)
 (hd:o.dst=some d) (hdn:Nat.blt d n=true) (hx: (execOp (ev L) o).run P w=.ok (.value v) w') (hk: ∀a',Frm n ((d,v)::L) a' dd→wpList P ops Q rest a' w'):wpList P ops Q (o::rest) a w:=by
 simp only[wpList]
 rw[hf.wanted hw]
 refine .inl (wp_value ((hf.exec hr)▸hx) (hk _ ?_))
 rw[hd]
 exact hf.put (by simpa [Nat.blt_eq] using hdn) v
theorem xy {L:Fr} {a:Act} {w w':World} {o:Oper} {rest:List Oper} (hf:Frm n L a dd) (hw:bv ops L o=some true) (hr:bX L o=true)
 (hd:o.dst=none) (hx: (execOp (ev L) o).run P w=.ok .skip w') (hk: ∀a',Frm n L a' dd→wpList P ops Q rest a' w'):wpList P ops Q (o::rest) a w:=by
 simp only[wpList]
 rw[hf.wanted hw]
 refine .inl (wp_skip' ((hf.exec hr)▸hx) (hk _ ?_))
 rw[hd]
 exact hf
theorem W_call {L:Fr} {a:Act} {w:World} {o:Oper} {rest:List Oper} {d:Nat} {f:FuncId} {args:Array Value} {R:Value→World→Prop} (hf:Frm n L a dd) (hw:bv ops L o=some true) (hr:bX L o=true)
 (hd:o.dst=some d) (hdn:Nat.blt d n=true) (hx: (execOp (ev L) o).run P w=.ok (.enter f args) w) (hc:Calls P f args w λe w'=>∃v,e=.returned v∧R v w')
 (hk: ∀v w',R v w'→∀a',Frm n ((d,v)::L) a' dd→wpList P ops Q rest a' w'):wpList P ops Q (o::rest) a w:=by
 simp only[wpList]
 rw[hf.wanted hw]
 refine .inl ?_
 unfold Oper.wp
 rw[hf.exec hr,hx]
 refine hc.mono λe w' he=>?_
 obtain⟨v,rfl,hR⟩:=he
 refine hk v w' hR _ ?_
 rw[hd]
 exact hf.put (by simpa [Nat.blt_eq] using hdn) v
theorem cL {a:Act} {w:World} {l:List Oper} (hl:l=[]) (h:Q .normal a w):wpList P ops Q l a w:=by subst hl;exact h
theorem cN {id:Nat} {a:Act} {w:World} (h:wpList P ops Q ops.toList a w): (Code.region id ops false).wp P Q a w:=wp_region_list h
theorem cq {x y:Code} {a:Act} {w:World} (h:x.wp P (Exit.then (y.wp P Q) Q) a w): (Code.seq x y).wp P Q a w:=wp_seq h
theorem RR {id:Nat} {y:Code} {a:Act} {w:World} (h:wpList P ops (Exit.then (y.wp P Q) Q) ops.toList a w): (Code.seq (.region id ops false) y).wp P Q a w:=cq (cN h)
theorem xw {L:Fr} {a:Act} {w:World} {c:Operand} {x y:Code} {b:Bool} (hf:Frm n L a dd) (hc:ev L c=.bool b) (hh:has L c=true)
 (ht:b=true→x.wp P Q a w) (hF:b=false→y.wp P Q a w): (Code.cond c x y).wp P Q a w:=
 wp_cond_split ((hf.ev hh).trans hc) ht hF
theorem Y0 {L:Fr} {a:Act} {w:World} {c:Operand} {x y:Code} {b:Bool} (hf:Frm n L a dd) (ht:b=true→x.wp P Q a w) (hF:b=false→y.wp P Q a w) (hc:ev L c=bO b:=by kernel_rfl) (hh:has L c=true:=by kernel_rfl): (Code.cond c x y).wp P Q a w:=xw hf hc hh ht hF
theorem RcF {L:Fr} {a:Act} {w:World} {c:Operand} {x y:Code} {b:Bool} {α:Type} {u v r:α} (hf:Frm n L a dd) (hX: (bif b then u else v)=r) (ht:b=true→u=r→x.wp P Q a w) (hF:b=false→v=r→y.wp P Q a w) (hc:ev L c=bO b:=by kernel_rfl) (hh:has L c=true:=by kernel_rfl): (Code.cond c x y).wp P Q a w:=
 xw hf hc hh (λh=>ht h (by rw[h] at hX;exact hX)) (λh=>hF h (by rw[h] at hX;exact hX))
theorem R_cond_t {L:Fr} {a:Act} {w:World} {c:Operand} {x y:Code} (hf:Frm n L a dd) (hc:ev L c=.bool true) (hh:has L c=true)
 (ht:x.wp P Q a w): (Code.cond c x y).wp P Q a w:=wp_cond ((hf.ev hh).trans hc) ht
theorem AZ {L:Fr} {a:Act} {w:World} {c:Operand} {x y:Code} (hf:Frm n L a dd) (hc:ev L c=.bool false) (hh:has L c=true)
 (ht:y.wp P Q a w): (Code.cond c x y).wp P Q a w:=wp_cond ((hf.ev hh).trans hc) ht
theorem jL {K:Act→World→Prop} {a:Act} {w:World} (h:K a w):Exit.then K Q .normal a w:=h
theorem eT {K:Act→World→Prop} {a:Act} {w:World} {l:List Oper} (h:K a w) (hl:l=[]:=by rfl):wpList P ops (Exit.then K Q) l a w:=cL hl (jL h)
theorem Er {a : Act} {w : World} {l : List Oper} {Q' : Exit → Act → World → Prop} (h : Q' .ret a w) (hl : l = [] := by rfl) : wpList P ops (Exit.then (Code.ret.wp P Q') Q) l a w := eT (wp_ret h) hl
theorem qS {K : Act → World → Prop} {a : Act} {w : World} (h : K a w) : Code.skip.wp P (Exit.then K Q) a w := wp_skip (jL h)
theorem T_x {K:Act→World→Prop} {a:Act} {w:World} {i:Nat} (h:Q (.exit i) a w):Exit.then K Q (.exit i) a w:=h
theorem T_r {K:Act→World→Prop} {a:Act} {w:World} (h:Q .ret a w):Exit.then K Q .ret a w:=h
theorem B_n {i:Nat} {a:Act} {w:World} (h:Q .normal a w):Exit.inBlock i Q .normal a w:=h
theorem B_r {i:Nat} {a:Act} {w:World} (h:Q .ret a w):Exit.inBlock i Q .ret a w:=h
theorem B_x {i:Nat} {a:Act} {w:World} (h:Q .normal a w):Exit.inBlock i Q (.exit i) a w:=by
 show(if i=i then Q .normal a w else Q (.exit i) a w)
 rw[if_pos rfl];exact h
theorem B_o {i j:Nat} {a:Act} {w:World} (hij:Nat.beq j i=false) (h:Q (.exit j) a w):Exit.inBlock i Q (.exit j) a w:=by
 show(if j=i then Q .normal a w else Q (.exit j) a w)
 rw[if_neg (Nat.ne_of_beq_eq_false hij)];exact h
end
def frame0 (args:Lv) (i:Nat):Fr:=match args with|[]=>[]|v::r=>(i,v)::frame0 r (i+1)
theorem vp: ∀ (args:Lv) (i t:Nat) (v:Value),look (frame0 args i) t=some v→i≤t∧args[t-i]? =some v
 |[],i,t,v,h=>by simp[frame0,look] at h
 |u::r,i,t,v,h=>by
  simp only[frame0,look] at h
  by_cases e:i=t
  ·subst e
   simp only[Nat.beq_refl,cond_true,Option.some.injEq] at h
   subst h
   simp
  have:Nat.beq i t=false:=beq_ne e
  simp only[this,cond_false] at h
  obtain⟨h1,h2⟩:=vp r (i+1) t v h
  refine⟨by omega,?_⟩
  rw[show t-i=(t- (i+1))+1 by omega]
  simpa using h2
theorem jK {P:Program} {f:FuncId} {fn:Func} {c:Code} {args:Lv} {w:World} {R:Ending→World→Prop} (n:Nat)
 (hf:P.funcs[f]? =some fn) (hb:fn.body=some c) (hn:fn.ntmps=n) (hle:args.length≤n)
 (h: ∀a,Frm n (frame0 args 0) a→c.wp P (bodyPost P fn R) a w):Calls P f args.toArray w R:=by
 refine calls_of_wp hf hb (h _ ⟨by simp[hn];omega,rfl,λt v hv=>?_⟩)
 obtain⟨_,h2⟩:=vp args 0 t v hv
 simp only[Nat.sub_zero] at h2
 have hlt:t<args.length:=(List.getElem?_eq_some_iff.1 h2).1
 rw[List.getElem?_eq_getElem hlt] at h2
 simp only[Option.some.injEq] at h2
 simp[Array.getElem?_append,hlt,h2]
theorem qR {P : Program} {f : FuncId} {fn : Func} {c : Code} {args : List Value} {w : World} {R : Ending → World → Prop} (n : Nat) (hf : P.funcs[f]? = some fn) (hb : fn.body = some c) (h : ∀ a, Frm n (frame0 args 0) a → c.wp P (bodyPost P fn R) a w) (hn : fn.ntmps = n := by rfl) (hle : args.length ≤ n := by simp) : Calls P f args.toArray w R := jK n hf hb hn hle h
section
variable {P:Program} {fn:Func} {n:Nat} {L:Fr} {a:Act} {w:World} {R:Ending→World→Prop}
theorem AQ (hf:Frm n L a dd) {t:Nat} {v:Value} (h:look L t=some v):a.tmps.getD t undef=v:=by simp[hf.at_ t v h]
theorem E_ret0 (hf:Frm n L a) (hr:fn.results=#[]) (h:R (.returned (.tuple #[])) w):bodyPost P fn R .ret a w:=
 ⟨hf.defers,_,results_none hr _ P w,h⟩
theorem E_end0 (hf:Frm n L a) (hr:fn.results=#[]) (h:R (.returned (.tuple #[])) w):bodyPost P fn R .normal a w:=
 ⟨hf.defers,_,results_none hr _ P w,h⟩
theorem oR {t:Nat} {v:Value} (hf:Frm n L a) (hr:fn.results=#[.tmp t]) (hv:look L t=some v) (h:R (.returned v) w):bodyPost P fn R .ret a w:=
 ⟨hf.defers,_,by rw[results_tmp hr,AQ hf hv],h⟩
end
end Go.Vc
namespace Go.Vc
open Go Go.RowKit
variable {dd:List Deferred}
def Mem:=Nat→Option Obj
def Mem.le (M M':Mem):Prop:=∀b o,M b=some o→M' b=some o
theorem Mem.le_refl (M:Mem):M.le M:=λ_ _ h=>h
theorem Mem.le.trans {M M' M'':Mem} (h:M.le M') (h':M'.le M''):M.le M'':=λb o e=>h' b o (h b o e)
def Mem.cell? (M:Mem) (a:Addr):Option Value:=match M a.block with|some (.cells c _ _)=>if a.spot.isSome then none else c[a.off]? |_=>none
theorem Mem.le.cell {M M':Mem} (h:M.le M') {a:Addr} {v:Value} (hc:M.cell? a=some v):M'.cell? a=some v:=by
 unfold Mem.cell? at*
 cases hb:M a.block with
 |none=>simp[hb] at hc
 |some o=>rw[h _ _ hb];rw[hb] at hc;exact hc
def Mem.add (M:Mem) (b:Nat) (o:Obj):Mem:=λi=>if i=b then some o else M i
def Mem.of (w:World):Mem:=λb=>w.heap[b]?
def ownsRowG (w:World) (base:Nat) (e:TypeId) (size:Nat) (v:Value) (n:Nat) (xs:Lv):Prop:=xs.length=n*size∧((v=.slice none 0 0∧n=0)∨∃g cap cur,v=.slice (some ⟨g,0,none⟩) n cap∧base≤g∧w.heap[g]? =some (.cells cur e (0,0))∧n≤cap∧cap≤maxLen∧(cap*size≤cur.size∧cur.size≤maxLen*size)∧cur.toList.take (n*size)=xs)
theorem yM {cap size m:Nat} (h:cap≤maxLen) (e:m=cap*size):cap*size≤m∧m≤maxLen*size:=⟨Nat.le_of_eq e.symm,by rw[e];exact Nat.mul_le_mul_right _ h⟩
theorem ownsRowG.of {w:World} {base:Nat} {e:TypeId} {size:Nat} {v:Value} {n:Nat} {xs:Lv} (h:w.ownsRow base e size v n xs):ownsRowG w base e size v n xs:=by
 obtain⟨h1,h2⟩:=h
 refine⟨h1,?_⟩
 rcases h2 with h2|⟨g,cap,cur,r1,r2,r3,r4,r5,r6,r7⟩
 ·exact .inl h2
 exact .inr ⟨g,cap,cur,r1,r2,r3,r4,r5,yM r5 r6,r7⟩
theorem ownsRowG.lt {w:World} {base:Nat} {e:TypeId} {size:Nat} {v:Value} {n:Nat} {xs:Lv} (h:ownsRowG w base e size v n xs) (b:Nat) (hb:v.ownBlock=some b):base≤b∧b<w.heap.size:=by
 obtain⟨_,⟨rfl,_⟩|⟨g,cap,cur,rfl,h2,h3,_⟩⟩:=h
 ·simp[Value.ownBlock] at hb
 simp[Value.ownBlock] at hb
 subst hb
 exact⟨h2,(Array.getElem?_eq_some_iff.1 h3).1⟩
inductive Ent
 |obj (b:Nat) (o:Obj)
 |row (e:TypeId) (size:Nat) (v:Value) (n:Nat) (xs:Lv)
section
variable {α : Type}
abbrev rO (e b : Nat) (A : Option Addr) (x : List α) (c : Nat) (L : List Value) : Ent := .row e b (.slice A x.length c) x.length L
abbrev oC (b : Nat) (c : Array Value) (T : Nat) : Ent := .obj b (.cells c T (0, 0))
end
def Ent.blk:Ent→Option Nat|.obj b _=>some b|.row _ _ v _ _=>v.ownBlock
def Ent.owns (B:Nat) (w:World):Ent→Prop|.obj b o=>B≤b∧w.heap[b]? =some o|.row e size v n xs=>ownsRowG w B e size v n xs
structure Hp (w0:World) (M:Mem) (H:List Ent) (w:World):Prop where
 below:Below w0.heap.size w0 w
 mem: ∀b o,M b=some o→w.heap[b]? =some o
 own: ∀e∈H,e.owns w0.heap.size w
 apart:H.Pairwise λx y=>∀b,x.blk=some b→y.blk≠some b
 free: ∀e∈H,∀b,e.blk=some b→M b=none
theorem lG {w:World} {b:Nat} {o:Obj} (h:w.heap[b]? =some o):b<w.heap.size:=(Array.getElem?_eq_some_iff.1 h).1
theorem Hp.start (w:World):Hp w (Mem.of w) [] w:=
 ⟨Below.refl _ _,λ_ _ h=>h,λ_ h=>by simp at h,.nil,λ_ h=>by simp at h⟩
section
variable {w0 w w':World} {M M':Mem} {H H':List Ent} {e:Ent} {b:Nat} {o:Obj}
theorem Hp.cell (h:Hp w0 M H w) {a:Addr} {v:Value} (hc:M.cell? a=some v):w.cell? a=some v:=by
 unfold Mem.cell? at hc
 unfold World.cell?
 cases hb:M a.block with
 |none=>simp[hb] at hc
 |some o=>rw[h.mem _ _ hb];rw[hb] at hc;exact hc
theorem Hp.less (h:Hp w0 M' H w) (hm:M.le M'):Hp w0 M H w:=
 ⟨h.below,λb o hb=>h.mem b o (hm b o hb),h.own,h.apart,λe he b hb=>by
  have:=h.free e he b hb
  cases hM:M b with
  |none=>rfl
  |some o=>rw[hm b o hM] at this;cases this⟩
theorem Hp.perm (h:Hp w0 M H w) (hp:H.Perm H'):Hp w0 M H' w:=
 ⟨h.below,h.mem,λe he=>h.own e (hp.mem_iff.2 he),hp.pairwise h.apart (λhxy b hy hx=>hxy b hx hy),λe he=>h.free e (hp.mem_iff.2 he)⟩
theorem Hp.drop (h:Hp w0 M (e::H) w):Hp w0 M H w:=
 ⟨h.below,h.mem,λx hx=>h.own x (List.mem_cons_of_mem _ hx),(List.pairwise_cons.1 h.apart).2,λx hx=>h.free x (List.mem_cons_of_mem _ hx)⟩
theorem Hp.dropN (h:Hp w0 M H w) (k:Nat):Hp w0 M (H.drop k) w:=
 ⟨h.below,h.mem,λx hx=>h.own x (List.mem_of_mem_drop hx),h.apart.sublist (List.drop_sublist _ _),λx hx=>h.free x (List.mem_of_mem_drop hx)⟩
theorem yW: ∀ (H:List Ent) (i:Nat) (e:Ent),H[i]? =some e→H.Perm (e::H.eraseIdx i)
 |[],i,e,h=>by simp at h
 |x::r,0,e,h=>by simp only[List.getElem?_cons_zero,Option.some.injEq] at h;subst h;exact .refl _
 |x::r,i+1,e,h=>by
  simp only[List.getElem?_cons_succ] at h
  exact((yW r i e h).cons x).trans (.swap e x _)
theorem Hp.pull (h:Hp w0 M H w) (i:Nat) {e:Ent} {H':List Ent} (he:H[i]? =some e) (hH:H.eraseIdx i=H'):Hp w0 M (e::H') w:=by
 subst hH;exact h.perm (yW H i e he)
theorem Ent.blk_lt {B:Nat} (h:e.owns B w) (hb:e.blk=some b):B≤b∧b<w.heap.size:=by
 cases e with
 |obj c o=>simp only[Ent.blk,Option.some.injEq] at hb;subst hb;exact⟨h.1,lG h.2⟩
 |row t size v n xs=>exact ownsRowG.lt h b hb
theorem Ent.owns_keep {B:Nat} (h:e.owns B w) (hk: ∀b,e.blk=some b→w'.heap[b]? =w.heap[b]?):e.owns B w':=by
 cases e with
 |obj c o=>exact⟨h.1,(hk c rfl).trans h.2⟩
 |row t size v n xs=>
  obtain⟨h1,h2⟩:=h
  refine⟨h1,?_⟩
  rcases h2 with h2|⟨g,cap,cur,rfl,hg,hh,r⟩
  ·exact .inl h2
  exact .inr ⟨g,cap,cur,rfl,hg,(hk g rfl).trans hh,r⟩
theorem Hp.drew (h:Hp w0 M H w):Hp w0 M H w.drew:=
 ⟨h.below.drew,h.mem,λe he=>Ent.owns_keep (h.own e he) λ_ _=>rfl,h.apart,h.free⟩
theorem get_alloc (w:World) (o:Obj): (w.alloc o).heap[w.heap.size]? =some o:=by
 show(w.heap.push o)[w.heap.size]? =_
 simp
theorem Hp.alloc (h:Hp w0 M H w) (o:Obj):Hp w0 M (.obj w.heap.size o::H) (w.alloc o):=by
 have hlt: ∀e∈H,∀b,e.blk=some b→b<w.heap.size:=λe he b hb=>(Ent.blk_lt (h.own e he) hb).2
 refine⟨h.below.alloc h.below.size o,λb x hb=>?_,λe he=>?_,?_,λe he b hb=>?_⟩
 ·have:=h.mem b x hb
  rw[Below.heap_alloc w o b (lG this)];exact this
 ·rcases List.mem_cons.1 he with rfl|he
  ·exact⟨h.below.size,get_alloc w o⟩
  exact Ent.owns_keep (h.own e he) λb hb=>Below.heap_alloc w o b (hlt e he b hb)
 ·refine List.pairwise_cons.2 ⟨λe he b hb hb'=>?_,h.apart⟩
  simp only[Ent.blk,Option.some.injEq] at hb
  have:=hlt e he b hb'
  omega
 rcases List.mem_cons.1 he with rfl|he
 ·simp only[Ent.blk,Option.some.injEq] at hb
  subst hb
  cases hM:M w.heap.size with
  |none=>rfl
  |some x=>have:=lG (h.mem _ _ hM);omega
 exact h.free e he b hb
theorem Hp.write (h:Hp w0 M (.obj b o::H) w) {o':Obj} (h1:w'.os=w.os) (h2:w'.tape=w.tape) (h3:w'.output=w.output) (h4:w'.heap.size=w.heap.size)
 (h5:w'.heap[b]? =some o') (h6: ∀k,k≠b→w'.heap[k]? =w.heap[k]?):Hp w0 M (.obj b o'::H) w':=by
 have hb:=h.own _ List.mem_cons_self
 have hM:=h.free _ List.mem_cons_self b rfl
 have hap:=List.pairwise_cons.1 h.apart
 refine⟨⟨h1.trans h.below.os,h2.trans h.below.tape,h3.trans h.below.output,by have:=h.below.size;omega,λk hk=>?_⟩,λk x hk=>?_,λe he=>?_,?_,λe he k hk=>?_⟩
 ·rw[h6 k (by have:=hb.1;omega)];exact h.below.block k hk
 ·rw[h6 k (λe=>by subst e;rw[hM] at hk;cases hk)];exact h.mem k x hk
 ·rcases List.mem_cons.1 he with rfl|he2
  ·exact⟨hb.1,h5⟩
  exact Ent.owns_keep (h.own e (List.mem_cons_of_mem _ he2)) λk hk=>h6 k (λe'=>hap.1 e he2 b rfl (e'▸hk))
 ·exact List.pairwise_cons.2 ⟨λe he k hk=>hap.1 e he k hk,hap.2⟩
 rcases List.mem_cons.1 he with rfl|he
 ·exact h.free _ List.mem_cons_self k hk
 exact h.free e (List.mem_cons_of_mem _ he) k hk
theorem Hp.setCell {T:TypeId} {cs:Array Value} {fr:Nat×Nat} (h:Hp w0 M (.obj b (.cells cs T fr)::H) w) (i:Nat) (v:Value):
 Hp w0 M (.obj b (.cells (cs.setIfInBounds i v) T fr)::H) (w.setCell ⟨b,i,none⟩ v):=by
 have hb:=(h.own _ List.mem_cons_self).2
 refine h.write rfl rfl rfl (by simp[World.setCell]) ?_ (λk hk=>Below.heap_setCell w ⟨b,i,none⟩ v k hk)
 simp[World.setCell,Array.getElem?_modify,hb]
theorem Hp.ownCell {T:TypeId} {cs:Array Value} {fr:Nat×Nat} (h:Hp w0 M H w) (i:Nat) (he:H[i]? =some (.obj b (.cells cs T fr))) (j:Nat):w.cell? ⟨b,j,none⟩=cs[j]? :=by
 have:=(h.own _ (List.mem_of_getElem? he)).2
 simp[World.cell?,this]
theorem Hp.ownFrozen {T:TypeId} {cs:Array Value} {lo hi:Nat} (h:Hp w0 M H w) (i:Nat) (he:H[i]? =some (.obj b (.cells cs T (lo,hi)))) (j:Nat) (hj: ¬ (lo≤j∧j<hi)):w.frozen? ⟨b,j,none⟩=false:=by
 have:=(h.own _ (List.mem_of_getElem? he)).2
 simp[World.frozen?,this]
 omega
theorem Hp.freeze (h:Hp w0 M (.obj b o::H) w):M.le (M.add b o)∧Hp w0 (M.add b o) H w:=by
 have hM:=h.free _ List.mem_cons_self b rfl
 have hb:=h.own _ List.mem_cons_self
 have hap:=List.pairwise_cons.1 h.apart
 refine⟨λk x hk=>?_,h.below,λk x hk=>?_,λe he=>h.own e (List.mem_cons_of_mem _ he),hap.2,λe he k hk=>?_⟩
 ·unfold Mem.add
  split
  ·rename_i hkb;subst hkb;rw[hM] at hk;cases hk
  exact hk
 ·unfold Mem.add at hk
  split at hk
  ·rename_i hkb;subst hkb;cases hk;exact hb.2
  exact h.mem k x hk
 unfold Mem.add
 split
 ·rename_i hkb;subst hkb;exact absurd hk (hap.1 e he k rfl)
 exact h.free e (List.mem_cons_of_mem _ he) k hk
theorem Hp.nilRow (h:Hp w0 M H w) (t:TypeId) (size:Nat):Hp w0 M (.row t size (.slice none 0 0) 0 []::H) w:=
 ⟨h.below,h.mem,λe he=>by
  rcases List.mem_cons.1 he with rfl|he
  ·exact .of (World.ownsRow_nil _ _ _ _)
  exact h.own e he,
  List.pairwise_cons.2 ⟨λe _ b hb=>by simp[Ent.blk,Value.ownBlock] at hb,h.apart⟩,
  λe he b hb=>by
   rcases List.mem_cons.1 he with rfl|he
   ·simp[Ent.blk,Value.ownBlock] at hb
   exact h.free e he b hb⟩
theorem Hp.nilR {w0 : World} {M : Mem} {H : List Ent} {w : World} (h : Hp w0 M H w) (e sz : Nat) (α : Type) : ∃ A cap, Value.slice none 0 0 = .slice A ([] : List α).length cap ∧ Hp w0 M (.row e sz (.slice A ([] : List α).length cap) ([] : List α).length [] :: H) w := ⟨none, 0, rfl, h.nilRow e sz⟩
theorem Hp.rowAt {t:TypeId} {size n:Nat} {v:Value} {xs:Lv} (h:Hp w0 M H w) (i:Nat) (he:H[i]? =some (.row t size v n xs)):ownsRowG w w0.heap.size t size v n xs:=h.own _ (List.mem_of_getElem? he)
end
end Go.Vc
namespace Go.Vc
open Go Go.RowKit
variable {dd:List Deferred}
abbrev mkS (l:Bs):ByteArray:=⟨l.toArray⟩
abbrev S (l:Bs):Value:=.string ⟨l.toArray⟩
theorem lH (l:Bs): (mkS l).toList=l:=by rw[Lib.toList_data]
theorem S_eta (s:ByteArray):Value.string s=S s.data.toList:=by simp[S]
def isAggD:TypeDesc→Bool|.struct _|.array _ _=>true|_=>false
def one1 (P:Program) (t:TypeId):Bool:=match P.underlying t with|some d=> !isAggD d|none=>false
def aggN (P:Program) (t:TypeId) (n:Nat):Bool:=match P.underlying t,P.info? t with|some d,some i=>isAggD d&&Nat.beq i.size n|_,_=>false
def szIs (P:Program) (t:TypeId) (n:Nat):Bool:=match P.info? t with|some i=>Nat.beq i.size n|none=>false
section
variable {P:Program} {w:World} {ρ:Operand→Value} {o:Oper}
theorem ic {t n:Nat} (h:szIs P t n=true): (sizeOf t).run P w=.ok n w:=by
 unfold szIs at h
 cases hi:P.info? t with
 |none=>simp[hi] at h
 |some i=>simp only[hi] at h;have:=Nat.eq_of_beq_eq_true h;simp[sizeOf,typeInfo,hi,this]
theorem aAa {t:TypeId} (h:one1 P t=true): (isAgg t).run P w=.ok false w:=by
 unfold one1 at h
 cases hu:P.underlying t with
 |none=>simp[hu] at h
 |some d=>
  unfold isAgg
  rw[Sem.run_bind,run_underlying hu w]
  cases d<;>simp_all[isAggD]
theorem aAb {t n:Nat} (h:aggN P t n=true): (isAgg t).run P w=.ok true w∧szIs P t n=true:=by
 unfold aggN at h
 cases hu:P.underlying t with
 |none=>simp[hu] at h
 |some d=>
  cases hi:P.info? t with
  |none=>simp[hu,hi] at h
  |some i=>
   simp only[hu,hi,Bool.and_eq_true] at h
   refine⟨?_,by simp[szIs,hi,h.2]⟩
   unfold isAgg
   rw[Sem.run_bind,run_underlying hu w]
   cases d<;>simp_all[isAggD]
theorem sQ {t:TypeId} {x:Operand} {ad:Addr} {v:Value} (ho:o.op=.load t x) (hx:ρ x=.pointer (some ad)) (ht:one1 P t=true) (hc:w.cell? ad=some v): (execOp ρ o).run P w=.ok (.value v) w:=by
 unfold execOp
 simp only[ho,hx,Instr.loadAt,Instr.sureAddr,Sem.run_bind,Sem.run_pure,Result.andThen_ok,loadVar,aAa ht]
 simp[hc]
theorem X_loadN {t:TypeId} {x:Operand} {ad:Addr} {cs:Lv} (ho:o.op=.load t x) (hx:ρ x=.pointer (some ad)) (ht:aggN P t cs.length=true) (hc: ∀j v,cs[j]? =some v→w.cell? (ad.add j)=some v):
 (execOp ρ o).run P w=.ok (.value (.agg cs.toArray)) w:=by
 obtain⟨h1,h2⟩:=aAb (w:=w) ht
 unfold execOp
 simp only[ho,hx,Instr.loadAt,Instr.sureAddr,Sem.run_bind,Sem.run_pure,Result.andThen_ok,loadVar,h1,if_true,ic h2,run_loadCells_list w ad cs hc]
theorem Bd {t:TypeId} {x y:Operand} {ad:Addr} {v u:Value} (ho:o.op=.store t x y) (hx:ρ x=.pointer (some ad)) (hy:ρ y=v) (hv:v.oneCell'=true) (hs:szIs P t 1=true) (hc:w.cell? ad=some u) (hf:w.frozen? ad=false):
 (execOp ρ o).run P w=.ok .skip (w.setCell ad v):=by
 have hcells:v.cells=#[v]:=by cases v<;>simp_all[Value.cells,Value.oneCell']
 unfold execOp
 simp only[ho,hx,hy,Instr.storeAt,Instr.sureAddr,Sem.run_bind,Sem.run_pure,Result.andThen_ok,storeVar,hcells,ic hs]
 cases v<;>simp_all[storeCells,store,Sem.run,Addr.add,Value.oneCell']
theorem iJ {t e sz:Nat} {x ix:Operand} {ad:Addr} {len cap:Nat} {k:IntKind} {i:Int} (ho:o.op=.indexAddr t x ix) (hx:ρ x=.slice (some ad) len cap) (hi:ρ ix=.int k i) (ht:P.underlying t=some (.slice e))
 (hs:szIs P e sz=true) (h0:0≤i) (h1:i<len): (execOp ρ o).run P w=.ok (.value (.pointer (some (ad.add (i.toNat*sz))))) w:=by
 unfold execOp
 simp only[ho,hx,hi,Instr.indexAt,asIntOf,Sem.run_bind,Sem.run_pure,Result.andThen_ok,run_underlying ht]
 simp[h0,h1,ic hs]
theorem X_strIndex {t:Nat} {x ix:Operand} {l:Bs} {k:IntKind} {i:Int} (ho:o.op=.index t x ix) (hx:ρ x=S l) (hi:ρ ix=.int k i) (ht:P.underlying t=some .string)
 (h0:0≤i) (h1:i<l.length): (execOp ρ o).run P w=.ok (.value (.int .u8 (l.getD i.toNat 0).toNat)) w:=by
 have hlt:i.toNat<l.length:=by omega
 have hg: (mkS l)[i.toNat]? =some (l.getD i.toNat 0):=by
  have: (mkS l).size=l.length:=rfl
  rw[getElem?_pos (mkS l) i.toNat (by omega)]
  simp[List.getD,hlt]
  rfl
 unfold execOp
 simp only[ho,hx,hi,Instr.index,asIntOf,Sem.run_bind,Sem.run_pure,Result.andThen_ok,run_underlying ht]
 simp only[h0,if_true,hg]
 rfl
theorem zx (l:Bs) (a b:Nat): (mkS l).extract a b=mkS ((l.take b).drop a):=by
 have h:=Lib.extract_data (mkS l) a b
 have e: ∀s:ByteArray,s=⟨s.data.toList.toArray⟩:=λs=>by simp
 rw[e ((mkS l).extract a b),h]
 simp[List.drop_take]
theorem X_strFrom {t:Nat} {x lo:Operand} {l:Bs} {k:IntKind} {a:Int} (ho:o.op=.slice t x (some lo) none none) (hx:ρ x=S l) (hlo:ρ lo=.int k a) (ht:P.underlying t=some .string)
 (h0:0≤a) (h1:a≤l.length): (execOp ρ o).run P w=.ok (.value (S (l.drop a.toNat))) w:=by
 have hsz: (mkS l).size=l.length:=rfl
 unfold execOp
 simp only[ho,hx,hlo,Option.map,Instr.sliceAt,Sem.run_bind,Sem.run_pure,Result.andThen_ok,run_underlying ht,Instr.slice,Instr.sliceBounds,Instr.sliceBound,asIntOf]
 simp[h0,hsz,h1,zx]
theorem X_strTo {t:Nat} {x hi:Operand} {l:Bs} {k':IntKind} {b:Int} (ho:o.op=.slice t x none (some hi) none) (hx:ρ x=S l) (hhi:ρ hi=.int k' b) (ht:P.underlying t=some .string)
 (h0:0≤b) (h2:b≤l.length): (execOp ρ o).run P w=.ok (.value (S (l.take b.toNat))) w:=by
 have hsz: ((mkS l).size:Int)=l.length:=rfl
 unfold execOp
 simp only[ho,hx,hhi,Option.map,Instr.sliceAt,Sem.run_bind,Sem.run_pure,Result.andThen_ok,run_underlying ht,Instr.slice,Instr.sliceBounds,Instr.sliceBound,asIntOf]
 simp[h0,hsz,h2,zx]
theorem beq_dec (l m:Bs): (l==m)=decide (l=m):=by rw[Bool.eq_iff_iff];simp
theorem append_mkS (l m:Bs):mkS l++mkS m=mkS (l++m):=by
 apply ByteArray.ext
 simp[ByteArray.data_append]
theorem X_concat {t t':Nat} {x y:Operand} {l m:Bs} (ho:o.op=.binOp .add t x y t') (hx:ρ x=S l) (hy:ρ y=S m) (h:l.length+m.length≤9223372036854775807): (execOp ρ o).run P w=.ok (.value (S (l++m))) w:=by
 have h1: (mkS l).size=l.length:=rfl
 have h2: (mkS m).size=m.length:=rfl
 have hs: ¬ ((((mkS l).size+ (mkS m).size:Nat):Int)>IntKind.i64.max):=by
  rw[h1,h2];simp only[IntKind.max,IntKind.signed,IntKind.bits];omega
 unfold execOp
 simp only[ho,hx,hy,eqGuard,binOp,Op.stringOp,Sem.run_bind]
 simp only[if_neg hs,append_mkS]
 rfl
theorem X_streq {t t':Nat} {x y:Operand} {l m:Bs} (ho:o.op=.binOp .eql t x y t') (hx:ρ x=S l) (hy:ρ y=S m): (execOp ρ o).run P w=.ok (.value (.bool (decide (l=m)))) w:=by
 unfold execOp
 simp only[ho,hx,hy,eqGuard,binOp,Op.stringOp,lH,beq_dec]
 rfl
theorem X_strne {t t':Nat} {x y:Operand} {l m:Bs} (ho:o.op=.binOp .neq t x y t') (hx:ρ x=S l) (hy:ρ y=S m): (execOp ρ o).run P w=.ok (.value (.bool (!decide (l=m)))) w:=by
 unfold execOp
 simp only[ho,hx,hy,eqGuard,binOp,Op.stringOp,lH,beq_dec]
 rfl
theorem X_strlt {t t':Nat} {x y:Operand} {l m:Bs} (ho:o.op=.binOp .lss t x y t') (hx:ρ x=S l) (hy:ρ y=S m): (execOp ρ o).run P w=.ok (.value (.bool (Op.bytesLess l m))) w:=by
 unfold execOp
 simp only[ho,hx,hy,eqGuard,binOp,Op.stringOp,lH]
 rfl
def cutA (A:Oa) (sz l m:Nat):Oa:=if m=l then A else A.map (·.add (l*sz))
theorem zt {t e sz:Nat} {x lo:Operand} {A:Oa} {len cap:Nat} {k:IntKind} {a:Int} (ho:o.op=.slice t x (some lo) none none) (hx:ρ x=.slice A len cap) (hlo:ρ lo=.int k a) (ht:P.underlying t=some (.slice e))
 (hs:szIs P e sz=true) (h0:0≤a) (h1:a≤len): (execOp ρ o).run P w=.ok (.value (.slice (cutA A sz a.toNat cap) (len-a.toNat) (cap-a.toNat))) w:=by
 unfold execOp
 simp only[ho,hx,hlo,Option.map,Instr.sliceAt,Sem.run_bind,Sem.run_pure,Result.andThen_ok,run_underlying ht,Instr.slice,Instr.sliceBounds,Instr.sliceBound,asIntOf]
 simp[h0,h1,ic hs,cutA]
 rfl
theorem X_sliceTo {t e sz:Nat} {x hi:Operand} {A:Oa} {len cap:Nat} {k':IntKind} {b:Int} (ho:o.op=.slice t x none (some hi) none) (hx:ρ x=.slice A len cap) (hhi:ρ hi=.int k' b) (ht:P.underlying t=some (.slice e))
 (hs:szIs P e sz=true) (h0:0≤b) (h2:b≤cap): (execOp ρ o).run P w=.ok (.value (.slice (cutA A sz 0 cap) b.toNat cap)) w:=by
 unfold execOp
 simp only[ho,hx,hhi,Option.map,Instr.sliceAt,Sem.run_bind,Sem.run_pure,Result.andThen_ok,run_underlying ht,Instr.slice,Instr.sliceBounds,Instr.sliceBound,asIntOf]
 simp[h0,h2,ic hs,cutA]
 rfl
def nh (l:Bs):Lv:=l.map λb=>.int .u8 b.toNat
end
end Go.Vc
namespace Go.Vc
open Go Go.RowKit
variable {dd:List Deferred}
def Ok (P:Program) (M:Mem) (f:FuncId) (args:Lv) (Post:Mem→Value→Prop):Prop:=∀M2,M.le M2→∀w0 H w,Hp w0 M2 H w→Calls P f args.toArray w λe w'=>∃v,e=.returned v∧∃M',M2.le M'∧Hp w0 M' H w'∧Post M' v
def OkH (P:Program) (M:Mem) (E:List Ent) (f:FuncId) (args:Lv) (Post:Mem→List Ent→Value→Prop):Prop:=∀M2,M.le M2→∀w0 H w,Hp w0 M2 (E++H) w→Calls P f args.toArray w λe w'=>∃v,e=.returned v∧∃M' E',M2.le M'∧Hp w0 M' (E'++H) w'∧Post M' E' v
theorem Ok.mono {P:Program} {M:Mem} {f:FuncId} {args:Lv} {Post Post':Mem→Value→Prop} (h:Ok P M f args Post) (hq: ∀M' v,M.le M'→Post M' v→Post' M' v):Ok P M f args Post':=
 λM2 h2 w0 H w hp=>(h M2 h2 w0 H w hp).mono λ_ _ ⟨v,he,M',hM,hp',hv⟩=>⟨v,he,M',hM,hp',hq M' v (h2.trans hM) hv⟩
theorem Ok.args {P:Program} {M:Mem} {f:FuncId} {args args':Lv} {Post:Mem→Value→Prop} (h:Ok P M f args Post) (e:args=args'):Ok P M f args' Post:=e▸h
theorem Hp.at_set {w0 w:World} {M:Mem} {H:List Ent} {e:Ent} (i:Nat) (hi:i<H.length) (h:Hp w0 M (e::H.eraseIdx i) w):Hp w0 M (H.set i e) w:=by
 have:=yW (H.set i e) i e (by simp[hi])
 rw[List.eraseIdx_set_eq] at this
 exact h.perm this.symm
section
variable {P:Program} {ops:Array Oper} {n:Nat} {Q:Exit→Act→World→Prop} {L:Fr} {a:Act} {w0 w:World} {M:Mem} {H:List Ent}
theorem W_alloc {l:List Oper} (hf:Frm n L a dd) (hp:Hp w0 M H w) (m:Nat) (ks:List Nat) (o:Obj) (L':Nat→Fr)
 (h: ∀w,runK P ops n (l.take m) ks L w=some (L' w.heap.size,w.alloc o)) (hk: ∀b w',Hp w0 M (.obj b o::H) w'→∀a',Frm n (L' b) a' dd→wpList P ops Q (l.drop m) a' w'):wpList P ops Q l a w:=
 W_run hf m ks (h w) (hk w.heap.size (w.alloc o) (hp.alloc o))
theorem xO {o:Oper} {rest:List Oper} {t:TypeId} {x y:Operand} {b j:Nat} {v:Value} {cs:Array Value} {T:TypeId} {lo hi:Nat} (hf:Frm n L a dd) (hp:Hp w0 M H w) (i:Nat)
 (hw:bv ops L o=some true) (hr:bX L o=true) (hd:o.dst=none) (ho:o.op=.store t x y) (hx:ev L x=.pointer (some ⟨b,j,none⟩)) (hy:ev L y=v) (hv:v.oneCell'=true) (hs:szIs P t 1=true)
 (he:H[i]? =some (.obj b (.cells cs T (lo,hi)))) (hj:j<cs.size) (hfr: ¬ (lo≤j∧j<hi)) (H':List Ent) (hH:H.set i (.obj b (.cells (cs.setIfInBounds j v) T (lo,hi)))=H')
 (hk: ∀w',Hp w0 M H' w'→∀a',Frm n L a' dd→wpList P ops Q rest a' w'):wpList P ops Q (o::rest) a w:=by
 subst hH
 have hc:w.cell? ⟨b,j,none⟩=some cs[j]:=(hp.ownCell i he j).trans (by simp[hj])
 refine xy hf hw hr hd (Bd ho hx hy hv hs hc (hp.ownFrozen i he j hfr)) (hk _ ?_)
 exact Hp.at_set i (List.getElem?_eq_some_iff.1 he).1 ((hp.pull i he rfl).setCell j v)
theorem W_ok {o:Oper} {rest:List Oper} {d:Nat} {f:FuncId} {args:Lv} {Post:Mem→Value→Prop} (hf:Frm n L a dd) (hp:Hp w0 M H w) (hw:bv ops L o=some true) (hr:bX L o=true)
 (hd:o.dst=some d) (hdn:Nat.blt d n=true) (hx: ∀w,(execOp (ev L) o).run P w=.ok (.enter f args.toArray) w) (hc:Ok P M f args Post)
 (hk: ∀v M' w',M.le M'→Hp w0 M' H w'→Post M' v→∀a',Frm n ((d,v)::L) a' dd→wpList P ops Q rest a' w'):wpList P ops Q (o::rest) a w:=
 W_call (R:=λv w'=>∃M',M.le M'∧Hp w0 M' H w'∧Post M' v) hf hw hr hd hdn (hx w) (hc M (Mem.le_refl M) w0 H w hp) λv w' ⟨M',h1,h2,h3⟩ a' ha=>hk v M' w' h1 h2 h3 a' ha
theorem W_okv {o:Oper} {rest:List Oper} {d:Nat} {f:FuncId} {args:Lv} {v:Value} (hf:Frm n L a dd) (hp:Hp w0 M H w) (hw:bv ops L o=some true) (hr:bX L o=true)
 (hd:o.dst=some d) (hdn:Nat.blt d n=true) (hx: ∀w,(execOp (ev L) o).run P w=.ok (.enter f args.toArray) w) (hc:Ok P M f args λ_ u=>u=v)
 (hk: ∀w',Hp w0 M H w'→∀a',Frm n ((d,v)::L) a' dd→wpList P ops Q rest a' w'):wpList P ops Q (o::rest) a w:=
 W_ok hf hp hw hr hd hdn hx hc λu M' w' h1 h2 h3 a' ha=>by subst h3;exact hk w' (h2.less h1) a' ha
theorem W_okH {o:Oper} {rest:List Oper} {d:Nat} {f:FuncId} {args:Lv} {E:List Ent} {Post:Mem→List Ent→Value→Prop} (hf:Frm n L a dd) (hp:Hp w0 M (E++H) w) (hw:bv ops L o=some true) (hr:bX L o=true)
 (hd:o.dst=some d) (hdn:Nat.blt d n=true) (hx: ∀w,(execOp (ev L) o).run P w=.ok (.enter f args.toArray) w) (hc:OkH P M E f args Post)
 (hk: ∀v M' E' w',M.le M'→Hp w0 M' (E'++H) w'→Post M' E' v→∀a',Frm n ((d,v)::L) a' dd→wpList P ops Q rest a' w'):wpList P ops Q (o::rest) a w:=
 W_call (R:=λv w'=>∃M' E',M.le M'∧Hp w0 M' (E'++H) w'∧Post M' E' v) hf hw hr hd hdn (hx w) (hc M (Mem.le_refl M) w0 H w hp) λv w' ⟨M',E',h1,h2,h3⟩ a' ha=>hk v M' E' w' h1 h2 h3 a' ha
theorem R_mid {c:Code} (Mid:Act→World→Prop) (h:c.wp P (Exit.then Mid Q) a w) (hk: ∀a w,Mid a w→Q .normal a w):c.wp P Q a w:=
 wp_mono h λe a w hq=>by
  cases e with
  |normal=>exact hk a w hq
  |_=>exact hq
theorem wp_loop_x {σ:Type} {c:Code} (J:σ→Act→World→Prop) (μ:σ→Nat) (x0:σ) (h0:J x0 a w)
 (round: ∀x a w,J x a w→c.wp P (Exit.then (λa' w'=>∃x',μ x'<μ x∧J x' a' w') Q) a w): (Code.loop c).wp P Q a w:=by
 refine wp_loop_ghost (λk a w=>∃x,μ x=k∧J x a w) (μ x0) ⟨x0,rfl,h0⟩ ?_
 rintro k a w ⟨x,rfl,hx⟩
 refine wp_mono (round x a w hx) λe a' w' hq=>?_
 cases e with
 |normal=>obtain⟨x',h1,h2⟩:=hq;exact⟨μ x',h1,x',rfl,h2⟩
 |_=>exact hq
theorem xx {σ:Type} {c:Code} (Lf:σ→Fr) (Hf:σ→List Ent) (I:σ→Mem→Prop) (μ:σ→Nat) (x0:σ) (hf:Frm n (Lf x0) a dd) (hp:Hp w0 M (Hf x0) w) (hi:I x0 M)
 (round: ∀x M' a w,M.le M'→I x M'→Frm n (Lf x) a dd→Hp w0 M' (Hf x) w→c.wp P (Exit.then (λa' w'=>∃x',μ x'<μ x∧∃M',M.le M'∧I x' M'∧Frm n (Lf x') a' dd∧Hp w0 M' (Hf x') w') Q) a w):
 (Code.loop c).wp P Q a w:=
 wp_loop_x (λx a w=>∃M',M.le M'∧I x M'∧Frm n (Lf x) a dd∧Hp w0 M' (Hf x) w) μ x0 ⟨M,Mem.le_refl M,hi,hf,hp⟩ λx a w ⟨M',h1,h2,h3,h4⟩=>round x M' a w h1 h2 h3 h4
end
inductive Dat
 |int (k:IntKind) (n:Int)
 |bool (b:Bool)
 |str (l:Bs)
 |list (sz:Nat) (ds:List Dat)
 |struct (ds:List Dat)
mutual def Rep (M:Mem):Dat→Lv→Prop|.int k n,cs=>cs=[.int k n]|.bool b,cs=>cs=[.bool b]|.str l,cs=>cs=[S l]|.list sz ds,cs=>∃A cap,cs=[.slice A ds.length cap]∧ds.length≤cap∧(A=none→cap=0)∧(ds=[]∨∃ad,A=some ad∧RepArr M sz ds ad)|.struct ds,cs=>au M ds cs def au (M:Mem):List Dat→Lv→Prop|[],cs=>cs=[]|d::ds,cs=>∃c1 c2,cs=c1++c2∧Rep M d c1∧au M ds c2 def RepArr (M:Mem) (sz:Nat):List Dat→Addr→Prop|[],_=>True|d::ds,ad=>(∃c,c.length=sz∧Rep M d c∧∀j v,c[j]? =some v→M.cell? (ad.add j)=some v)∧RepArr M sz ds (ad.add sz) end
mutual
theorem Rep.mono {M M':Mem} (h:M.le M'): ∀ (d:Dat) (cs:Lv),Rep M d cs→Rep M' d cs
 |.int _ _,_,hr=>hr
 |.bool _,_,hr=>hr
 |.str _,_,hr=>hr
 |.list sz ds,cs,hr=>by
  obtain⟨A,cap,h1,h2,hn,h3⟩:=hr
  refine⟨A,cap,h1,h2,hn,?_⟩
  rcases h3 with h3|⟨ad,h4,h5⟩
  ·exact .inl h3
  ·exact .inr ⟨ad,h4,RepArr.mono h sz ds ad h5⟩
 |.struct ds,cs,hr=>au.mono h ds cs hr
theorem au.mono {M M':Mem} (h:M.le M'): ∀ (ds:List Dat) (cs:Lv),au M ds cs→au M' ds cs
 |[],_,hr=>hr
 |d::ds,cs,hr=>by
  obtain⟨c1,c2,h1,h2,h3⟩:=hr
  exact⟨c1,c2,h1,Rep.mono h d c1 h2,au.mono h ds c2 h3⟩
theorem RepArr.mono {M M':Mem} (h:M.le M') (sz:Nat): ∀ (ds:List Dat) (ad:Addr),RepArr M sz ds ad→RepArr M' sz ds ad
 |[],_,_=>trivial
 |d::ds,ad,hr=>by
  obtain⟨⟨c,h1,h2,h3⟩,h4⟩:=hr
  exact⟨⟨c,h1,Rep.mono h d c h2,λj v hv=>h.cell (h3 j v hv)⟩,RepArr.mono h sz ds _ h4⟩
end
theorem dg (a:Addr) (i j:Nat): (a.add i).add j=a.add (i+j):=by
 unfold Addr.add
 by_cases hi:i=0<;>by_cases hj:j=0<;>simp[hi,hj,Nat.add_assoc]
theorem RepArr.get {M:Mem} {sz:Nat}: ∀ {ds:List Dat} {ad:Addr} (i:Nat) (d:Dat),RepArr M sz ds ad→ds[i]? =some d→
 ∃c,c.length=sz∧Rep M d c∧∀j v,c[j]? =some v→M.cell? ((ad.add (i*sz)).add j)=some v
 |[],_,i,d,_,h=>by simp at h
 |x::ds,ad,0,d,hr,h=>by
  simp only[List.getElem?_cons_zero,Option.some.injEq] at h
  subst h
  obtain⟨⟨c,h1,h2,h3⟩,_⟩:=hr
  exact⟨c,h1,h2,by simpa [Addr.add] using h3⟩
 |x::ds,ad,i+1,d,hr,h=>by
  simp only[List.getElem?_cons_succ] at h
  obtain⟨c,h1,h2,h3⟩:=RepArr.get i d hr.2 h
  refine⟨c,h1,h2,λj v hv=>?_⟩
  have:=h3 j v hv
  simp only[dg] at this ⊢
  rwa [show(i+1)*sz+j=sz+i*sz+j by rw[Nat.add_mul];omega]
end Go.Vc
namespace Go.Vc
open Go Go.RowKit
variable {dd:List Deferred}
theorem or_iff {b c:Bool} {p q:Prop} (h:b=true↔p) (k:c=true↔q): (b||c)=true↔ (p∨q):=by simp[h,k]
theorem iff_f {b:Bool} {p:Prop} (h:b=true↔p) (k:b=false): ¬p:=λhp=>by rw[h.2 hp] at k;cases k
theorem own_cells {w:World} {b:Nat} {cells:Array Value} {cs:Lv} (h: ∀j,w.cell? ⟨b,j,none⟩=cells[j]?) (off':Nat) (he: (cells.toList.drop off').take cs.length=cs):
 ∀j v,cs[j]? =some v→w.cell? ((⟨b,off',none⟩:Addr).add j)=some v:=by
 intro j v hv
 rw[Addr.add_lit,h,←Array.getElem?_toList]
 have hj:j<cs.length:=(List.getElem?_eq_some_iff.1 hv).1
 rw[←he,List.getElem?_take_of_lt hj,List.getElem?_drop] at hv
 exact hv
theorem i8_in {x:Int} (h: -128≤x∧x≤127):IntKind.i8.wrap x=x:=by simp[IntKind.wrap,IntKind.bits,IntKind.signed];omega
theorem i32_in {x:Int} (h: -2147483648≤x∧x≤2147483647):IntKind.i32.wrap x=x:=by simp[IntKind.wrap,IntKind.bits,IntKind.signed];omega
end Go.Vc
namespace Go.Vc
open Go Go.RowKit
variable {dd:List Deferred}
section
variable {w0 w w':World} {M M':Mem} {H:List Ent}
theorem Hp.rowObj {e:TypeId} {size:Nat} {v:Value} {n:Nat} {xs:Lv} (h:Hp w0 M (.row e size v n xs::H) w):
 (v=.slice none 0 0∧n=0∧xs=[]∧Hp w0 M H w)∨∃g cap cur,v=.slice (some ⟨g,0,none⟩) n cap∧n≤cap∧cap≤maxLen∧(cap*size≤cur.size∧cur.size≤maxLen*size)∧cur.toList.take (n*size)=xs∧xs.length=n*size∧Hp w0 M (.obj g (.cells cur e (0,0))::H) w:=by
 have ho:=h.own _ List.mem_cons_self
 obtain⟨h1,h2⟩:=ho
 rcases h2 with⟨rfl,rfl⟩|⟨g,cap,cur,rfl,hg,hh,hnc,hcm,hcs,htk⟩
 ·refine .inl ⟨rfl,rfl,List.eq_nil_of_length_eq_zero (by simpa using h1),h.drop⟩
 refine .inr ⟨g,cap,cur,rfl,hnc,hcm,hcs,htk,h1,⟨h.below,h.mem,λx hx=>?_,?_,λx hx=>?_⟩⟩
 ·rcases List.mem_cons.1 hx with rfl|hx
  ·exact⟨hg,hh⟩
  exact h.own x (List.mem_cons_of_mem _ hx)
 ·have hap:=List.pairwise_cons.1 h.apart
  exact List.pairwise_cons.2 ⟨λx hx b hb=>hap.1 x hx b (by simpa [Ent.blk,Value.ownBlock] using hb),hap.2⟩
 intro b hb
 rcases List.mem_cons.1 hx with rfl|hx
 ·exact h.free _ List.mem_cons_self b (by simpa [Ent.blk,Value.ownBlock] using hb)
 exact h.free x (List.mem_cons_of_mem _ hx) b hb
theorem mz (M:Mem) (b:Nat) (c:Array Value) (T:TypeId) (fr:Nat×Nat) (j:Nat): (M.add b (.cells c T fr)).cell? ⟨b,j,none⟩=c[j]? :=by simp[Mem.cell?,Mem.add]
theorem Hp.rowKnown {e:TypeId} {size:Nat} {v:Value} {n:Nat} {xs:Lv} (h:Hp w0 M (.row e size v n xs::H) w):
 ∃M',M.le M'∧Hp w0 M' H w∧((v=.slice none 0 0∧n=0∧xs=[])∨∃ad cap,v=.slice (some ad) n cap∧n≤cap∧xs.length=n*size∧∀j u,xs[j]? =some u→M'.cell? (ad.add j)=some u):=by
 rcases h.rowObj with⟨h1,h2,h3,h4⟩|⟨g,cap,cur,h1,h2,h3,h4,h5,h6,h7⟩
 ·exact⟨M,Mem.le_refl M,h4,.inl ⟨h1,h2,h3⟩⟩
 obtain⟨k1,k2⟩:=h7.freeze
 refine⟨_,k1,k2,.inr ⟨⟨g,0,none⟩,cap,h1,h2,h6,λj u hu=>?_⟩⟩
 rw[Addr.add_lit,mz,←Array.getElem?_toList]
 have hj:j<n*size:=h6▸ (List.getElem?_eq_some_iff.1 hu).1
 rw[←h5,List.getElem?_take_of_lt hj] at hu
 simpa using hu
end
section
variable {w0 w w':World} {M M':Mem} {H:List Ent} {b:Nat}
theorem Hp.objRow {e:TypeId} {size n cap:Nat} {cur:Array Value} {xs:Lv} (h:Hp w0 M (.obj b (.cells cur e (0,0))::H) w) (h1:n≤cap) (h2:cap≤maxLen) (h3:cap*size≤cur.size∧cur.size≤maxLen*size) (h4:cur.toList.take (n*size)=xs) (h5:xs.length=n*size):
 Hp w0 M (.row e size (.slice (some ⟨b,0,none⟩) n cap) n xs::H) w:=by
 have hb:=h.own _ List.mem_cons_self
 have hap:=List.pairwise_cons.1 h.apart
 refine⟨h.below,h.mem,λx hx=>?_,List.pairwise_cons.2 ⟨λx hx k hk=>hap.1 x hx k (by simpa [Ent.blk,Value.ownBlock] using hk),hap.2⟩,λx hx k hk=>?_⟩
 ·rcases List.mem_cons.1 hx with rfl|hx
  ·exact⟨h5,.inr ⟨b,cap,cur,rfl,hb.1,hb.2,h1,h2,h3,h4⟩⟩
  exact h.own x (List.mem_cons_of_mem _ hx)
 rcases List.mem_cons.1 hx with rfl|hx
 ·exact h.free _ List.mem_cons_self k (by simpa [Ent.blk,Value.ownBlock] using hk)
 exact h.free x (List.mem_cons_of_mem _ hx) k hk
end
def setM (cs:Array Value) (o:Nat):Lv→Array Value|[]=>cs|v::r=>setM (cs.setIfInBounds o v) (o+1) r
theorem zo: ∀ (vs:Lv) (cs:Array Value) (o:Nat),(setM cs o vs).size=cs.size
 |[],_,_=>rfl
 |v::r,cs,o=>by rw[setM,zo r];simp
theorem wF: ∀ (vs:Lv) (cs:Array Value) (o:Nat),o+vs.length≤cs.size→(setM cs o vs).toList=cs.toList.take o++vs++cs.toList.drop (o+vs.length)
 |[],cs,o,_=>by simp[setM]
 |v::r,cs,o,h=>by
  simp only[List.length_cons] at h
  rw[setM,wF r _ _ (by simp;omega),Array.toList_setIfInBounds]
  have hl:o<cs.toList.length:=by simp;omega
  rw[List.take_succ_eq_append_getElem (by simpa using hl),List.take_set_of_le (Nat.le_refl _),List.drop_set_of_lt (by omega)]
  simp[Nat.add_comm,Nat.add_left_comm]
section
variable {w0 w:World} {M:Mem} {H:List Ent} {b:Nat} {T:TypeId} {fr:Nat×Nat} {sz:Nat}
theorem Hp.setCells: ∀ (vs:Lv) {cs:Array Value} {w:World} (o:Nat),Hp w0 M (.obj b (.cells cs T fr)::H) w→Hp w0 M (.obj b (.cells (setM cs o vs) T fr)::H) (w.setCells b o vs)
 |[],_,_,_,h=>h
 |v::r,_,_,o,h=>Hp.setCells r (o+1) (h.setCell o v)
end
section
variable {P:Program} {w0 w:World} {M:Mem} {H:List Ent} {sz:Nat}
theorem Hp.appendSrc {t tx ty e:TypeId} {i:TypeInfo} {z x v:Value} {k m:Nat} {xs news:Lv} (hp:Hp w0 M (.row e sz v k xs::H) w) (hs:Src P sz tx x m news w)
 (ht:P.underlying t=some (.slice e)) (hi:P.info? e=some i) (hz:i.zero=some z) (hsz:i.size=sz) (hzs:z.cells.size=sz) (h0:0<sz) (hb: (k+m)*i.bytes≤140737488355328) (h63:k+m≤9223372036854775807):
 ∃v' w',(Builtin.append_ #[t,tx] ty #[v,x]).run P w=.ok v' w'∧Hp w0 M (.row e sz v' (k+m) (xs++news)::H) w':=by
 subst hsz
 have hl:=hs.newsLen
 have grow: ∀ (base:Oa) (cap:Nat) (o:Nat),cap<k+m→xs.length=k*i.size→Hp w0 M H w→(Builtin.firstCells i.size k (.slice base k cap)).run P w.drew=.ok xs.toArray w.drew→
  ∃v' w',(Builtin.append_ #[t,tx] ty #[.slice base k cap,x]).run P w=.ok v' w'∧Hp w0 M (.row e i.size v' (k+m) (xs++news)::H) w':=by
  intro base cap _ hc hxl hpH hold
  have hr:=run_append_grow_src (P:=P) w t tx ty e i z ht hi hz base k cap xs hold x m news hs hc (by omega) (growslice_fits hc hb)
  have hlen: (xs++news).length=(k+m)*i.size:=by rw[List.length_append,hxl,hl,Nat.add_mul]
  refine⟨_,_,hr,?_⟩
  refine(hpH.drew.alloc _).objRow (grownCap_ge w (k+m) cap e) (grownCap_le_maxLen w (k+m) cap e (by unfold maxLen;exact h63)) (yM (grownCap_le_maxLen w (k+m) cap e (by unfold maxLen;exact h63)) ?_) ?_ hlen
  ·have:=grownCap_ge w (k+m) cap e
   rw[Array.size_append,List.size_toArray,size_zeroCells,hzs,hlen,←Nat.add_mul]
   congr 1
   omega
  rw[Array.toList_append,←hlen]
  exact List.take_left
 rcases hp.rowObj with⟨h1,h2,h3,h4⟩|⟨g,cap,cur,h1,h2,h3,h4,h5,h6,h7⟩
 ·subst h1;subst h2;subst h3
  rcases Nat.eq_zero_or_pos m with h|h
  ·subst h
   have hn:news=[]:=List.eq_nil_of_length_eq_zero (by simpa using hl)
   subst hn
   exact⟨_,_,run_append_nothing w t tx ty e i ht hi none 0 0 (Nat.le_refl _) x hs,h4.nilRow _ _⟩
  exact grow none 0 0 (by omega) (by simp) h4 (run_firstCells_none w.drew i.size 0 0 0)
 subst h1
 by_cases hroom:k+m≤cap
 ·have hle: (k+m)*i.size≤cap*i.size:=Nat.mul_le_mul_right _ hroom
  rw[Nat.add_mul] at hle
  have hr:=run_append_room_src (P:=P) w t tx ty e i ht hi g 0 k cap x m news hs hroom
   (λj hj=>by
    rw[Nat.zero_add,h7.ownCell 0 rfl]
    have:k*i.size+j<cur.size:=by omega
    simp[this])
   (λj hj=>by rw[Nat.zero_add];exact h7.ownFrozen 0 rfl _ (by omega))
  rw[Nat.zero_add] at hr
  have h8:=h7.setCells news (k*i.size)
  refine⟨_,_,hr,h8.objRow hroom h3 (by rw[zo];exact h4) ?_ (by rw[List.length_append,h6,hl,Nat.add_mul])⟩
  rw[wF _ _ _ (by omega),h5,List.take_append_of_le_length (by rw[List.length_append,h6,hl,Nat.add_mul];omega),List.take_of_length_le (by rw[List.length_append,h6,hl,Nat.add_mul];omega)]
 have holds: ∀j u,xs[j]? =some u→w.drew.cell? ((⟨g,0,none⟩:Addr).add j)=some u:=λj u hu=>by
  rw[Addr.add_lit,h7.drew.ownCell 0 rfl,Nat.zero_add,←Array.getElem?_toList]
  have hj:j<k*i.size:=h6▸ (List.getElem?_eq_some_iff.1 hu).1
  rw[←h5,List.getElem?_take_of_lt hj] at hu
  exact hu
 exact grow (some ⟨g,0,none⟩) cap 0 (by omega) h6 h7.drop (run_firstCells_some w.drew i.size k ⟨g,0,none⟩ k cap xs h6 holds)
end
section
variable {P:Program} {ops:Array Oper} {n:Nat} {Q:Exit→Act→World→Prop} {L:Fr} {a:Act} {w0 w:World} {M:Mem} {H:List Ent}
def infoIs (P:Program) (e:TypeId) (z:Value) (size bytes:Nat):Bool:=match P.info? e with|some i=>(match i.zero with|some u=>Nat.beq u.cells.size z.cells.size|none=>false)&&Nat.beq i.size size&&Nat.beq i.bytes bytes&&Nat.beq z.cells.size size&&Nat.blt 0 size|none=>false
theorem AJ {P:Program} {e:TypeId} {z:Value} {size bytes:Nat} (h:infoIs P e z size bytes=true): ∃i u,P.info? e=some i∧i.zero=some u∧i.size=size∧i.bytes=bytes∧u.cells.size=size∧0<size:=by
 unfold infoIs at h
 cases hi:P.info? e with
 |none=>simp[hi] at h
 |some i=>
  simp only[hi,Bool.and_eq_true] at h
  obtain⟨⟨⟨⟨h1,h2⟩,h3⟩,h4⟩,h5⟩:=h
  cases hz:i.zero with
  |none=>simp[hz] at h1
  |some u=>
   simp only[hz] at h1
   have e1:=Nat.eq_of_beq_eq_true h1;have e2:=Nat.eq_of_beq_eq_true h2;have e3:=Nat.eq_of_beq_eq_true h3;have e4:=Nat.eq_of_beq_eq_true h4
   exact⟨i,u,rfl,hz,e2,e3,by omega,by simpa [Nat.blt_eq] using h5⟩
theorem xP {o:Oper} {ρ:Operand→Value} {x y:Operand} {t:TypeId} {v u:Value} {w w':World} {r:Value} (ho:o.op=.call {callee:=.builtin .append,args:=#[x,y],argTypes:=#[t,t]}) (hx:ρ x=v) (hy:ρ y=u)
 (h: (Builtin.append_ #[t,t] o.type #[v,u]).run P w=.ok r w'): (execOp ρ o).run P w=.ok (.value r) w':=by
 unfold execOp
 simp only[ho,resolve,invoke,builtin,Sem.run_bind,Sem.run_pure,Result.andThen_ok,List.map_toArray,List.map_cons,List.map_nil,hx,hy,h]
theorem Bb {o:Oper} {rest:List Oper} {d:Nat} {t e:TypeId} {x y:Operand} {z v:Value} {size bytes k m c:Nat} {xs news:Lv} {ad:Addr} (hf:Frm n L a dd) (hp:Hp w0 M (.row e size v k xs::H) w)
 (hw:bv ops L o=some true) (hr:bX L o=true) (hd:o.dst=some d) (hdn:Nat.blt d n=true) (ho:o.op=.call {callee:=.builtin .append,args:=#[x,y],argTypes:=#[t,t]})
 (hx:ev L x=v) (hy:ev L y=.slice (some ad) m c) (ht:P.underlying t=some (.slice e)) (hi:infoIs P e z size bytes=true)
 (hl:news.length=m*size) (hnews: ∀j u,news[j]? =some u→w.cell? (ad.add j)=some u) (h1: ∀u∈news,u.oneCell'=true) (hb: (k+m)*bytes≤140737488355328) (h63:k+m≤9223372036854775807)
 (hk: ∀v' w',Hp w0 M (.row e size v' (k+m) (xs++news)::H) w'→∀a',Frm n ((d,v')::L) a' dd→wpList P ops Q rest a' w'):wpList P ops Q (o::rest) a w:=by
 obtain⟨i,u,hi1,hi2,hi3,hi4,hi5,hi6⟩:=AJ hi
 subst hi3
 have hs:Src P i.size t (.slice (some ad) m c) m news w:=Src.ofSlice (P:=P) (size:=i.size) w ht ad m c news hl hnews h1
 obtain⟨v',w',hrun,hp'⟩:=hp.appendSrc (ty:=o.type) hs ht hi1 hi2 rfl hi5 hi6 (by rw[hi4];exact hb) h63
 exact Af hf hw hr hd hdn (xP ho hx hy hrun) (hk v' w' hp')
theorem xN {o:Oper} {rest:List Oper} {d:Nat} {t e:TypeId} {x y:Operand} {z v:Value} {size bytes k:Nat} {xs:Lv} (hf:Frm n L a dd) (hp:Hp w0 M (.row e size v k xs::H) w)
 (hw:bv ops L o=some true) (hr:bX L o=true) (hd:o.dst=some d) (hdn:Nat.blt d n=true) (ho:o.op=.call {callee:=.builtin .append,args:=#[x,y],argTypes:=#[t,t]})
 (hx:ev L x=v) (hy:ev L y=.slice none 0 0) (ht:P.underlying t=some (.slice e)) (hi:infoIs P e z size bytes=true)
 (hk: ∀a',Frm n ((d,v)::L) a' dd→wpList P ops Q rest a' w):wpList P ops Q (o::rest) a w:=by
 obtain⟨i,u,hi1,hi2,hi3,hi4,hi5,hi6⟩:=AJ hi
 subst hi3
 have hs:Src P i.size t (.slice none 0 0) 0 [] w:=Src.ofNil w ht 0
 have hrun: (Builtin.append_ #[t,t] o.type #[v,.slice none 0 0]).run P w=.ok v w:=by
  rcases(hp.own _ List.mem_cons_self).2 with⟨e1,e2⟩|⟨g,cap,cur,e1,_,_,hnc,_⟩
  ·subst e1
   exact run_append_nothing w t t o.type e i ht hi1 none 0 0 (Nat.le_refl _) _ hs
  subst e1
  exact run_append_nothing w t t o.type e i ht hi1 (some ⟨g,0,none⟩) k cap hnc _ hs
 exact Af hf hw hr hd hdn (xP ho hx hy hrun) hk
def KB (M:Mem) (ad:Addr) (l:Bs):Prop:=∀j,j<l.length→M.cell? (ad.add j)=some (.int .u8 (l.getD j 0).toNat)
theorem KB.mono {M M':Mem} {ad:Addr} {l:Bs} (h:KB M ad l) (hM:M.le M'):KB M' ad l:=λj hj=>hM.cell (h j hj)
def KZ (M:Mem) (ad:Addr) (l:Bs):Prop:=∀j,j≤l.length→M.cell? (ad.add j)=some (.int .u8 (l.getD j 0).toNat)
theorem KZ.mono {M M':Mem} {ad:Addr} {l:Bs} (h:KZ M ad l) (hM:M.le M'):KZ M' ad l:=λj hj=>hM.cell (h j hj)
theorem KB.z {M:Mem} {ad:Addr} {l:Bs} (h:KB M ad (l++[0])):KZ M ad l:=λj hj=>by
 rw[h j (by simp;omega)]
 congr 4
 simp only[List.getD,List.getElem?_append]
 split
 ·rfl
 rename_i hn
 have:j=l.length:=by omega
 subst this
 simp
end
end Go.Vc
namespace Go.Vc
open Go Go.RowKit
variable {dd:List Deferred}
theorem Ok.top {P:Program} {f:FuncId} {args:Lv} {W:World} (h:Ok P (Mem.of W) f args λ_ v=>v=.bool true):Calls P f args.toArray W λe w'=>e=.returned (.bool true)∧Below W.heap.size W w':=
 (h (Mem.of W) (Mem.le_refl _) W [] W (Hp.start W)).mono λe w' ⟨v,he,M',_,hp,hv⟩=>⟨by rw[he,hv],hp.below⟩
end Go.Vc
namespace Go.Vc
open Go Go.RowKit
variable {dd:List Deferred}
section
variable {P:Program} {w:World} {ρ:Operand→Value} {o:Oper}
theorem X_string {t t' e:Nat} {x:Operand} {ad:Addr} {cap:Nat} {l:Bs} (ho:o.op=.convert t t' x) (hx:ρ x=.slice (some ad) l.length cap) (ht:P.underlying t=some (.slice e)) (he:P.underlying e=some (.int .u8)) (ht':P.underlying t'=some .string)
 (hc: ∀j u,(nh l)[j]? =some u→w.cell? (ad.add j)=some u): (execOp ρ o).run P w=.ok (.value (S l)) w:=by
 have h:=run_convert_bytes_back (P:=P) w t t' e ad cap l ht he ht' (λj hj=>by
  refine hc j _ ?_
  simp[nh,List.getElem?_eq_getElem hj])
 unfold execOp
 simp only[ho,hx,Sem.run_bind,h]
 rfl
theorem X_string_row {t t' e B:Nat} {x:Operand} {v:Value} {l:Bs} (ho:o.op=.convert t t' x) (hx:ρ x=v) (ht:P.underlying t=some (.slice e)) (he:P.underlying e=some (.int .u8)) (ht':P.underlying t'=some .string)
 (hown:ownsRowG w B e 1 v l.length (nh l)): (execOp ρ o).run P w=.ok (.value (S l)) w:=by
 rcases hown.2 with⟨rfl,h0⟩|⟨g,cap,cur,rfl,hg,hh,hnc,hcm,hcs,htk⟩
 ·have:l=[]:=List.eq_nil_of_length_eq_zero h0
  subst this
  unfold execOp
  simp only[ho,hx,Sem.run_bind,run_convert_bytes_string w t t' e none 0 0 ht he ht']
  rfl
 refine X_string ho hx ht he ht' (λj u hu=>?_)
 have hj:j<l.length*1:=by have:=(List.getElem?_eq_some_iff.1 hu).1;simpa [nh] using this
 rw[Addr.add_lit,cell_of_row w g _ cur e (0,0) hh,←Array.getElem?_toList]
 rw[←htk,List.getElem?_take_of_lt hj] at hu
 simpa using hu
end
theorem all_one {l:Lv} (h: (l.all λu=>u.oneCell')=true): ∀u∈l,u.oneCell'=true:=List.all_eq_true.1 h
theorem byteCs_one (l:Bs): ∀u∈nh l,u.oneCell'=true:=by
 intro u hu
 simp only[nh,List.mem_map] at hu
 obtain⟨b,_,rfl⟩:=hu
 rfl
theorem Hp.rowEq {w0 w:World} {M:Mem} {H:List Ent} {e:TypeId} {size n n':Nat} {v:Value} {xs xs':Lv} (h:Hp w0 M (.row e size v n xs::H) w) (hn:n=n') (hx:xs=xs'):Hp w0 M (.row e size v n' xs'::H) w:=by subst hn;subst hx;exact h
end Go.Vc
namespace Go.Vc
open Go Go.RowKit
variable {dd:List Deferred}
def Arr (M:Mem) (A:Oa) (vs:Lv):Prop:=vs=[]∨∃ad,A=some ad∧∀j v,vs[j]? =some v→M.cell? (ad.add j)=some v
theorem Arr.mono {M M':Mem} {A:Oa} {vs:Lv} (h:Arr M A vs) (hM:M.le M'):Arr M' A vs:=by
 rcases h with h|⟨ad,h1,h2⟩
 ·exact .inl h
 exact .inr ⟨ad,h1,λj v hv=>hM.cell (h2 j v hv)⟩
theorem Arr.at_ {M:Mem} {A:Oa} {vs:Lv} (h:Arr M A vs) {i:Nat} (hi:i<vs.length): ∃ad,A=some ad∧M.cell? (ad.add i)=some (vs.getD i undef):=by
 rcases h with h|⟨ad,h1,h2⟩
 ·subst h;simp at hi
 exact⟨ad,h1,h2 i _ (by simp[List.getD,hi])⟩
def Ints (M:Mem) (k:IntKind) (A:Oa) (xs:CD):Prop:=Arr M A (xs.map (Value.int k))
theorem Ints.mono {M M':Mem} {k:IntKind} {A:Oa} {xs:CD} (h:Ints M k A xs) (hM:M.le M'):Ints M' k A xs:=Arr.mono h hM
theorem Ints.at_ {M:Mem} {k:IntKind} {A:Oa} {xs:CD} (h:Ints M k A xs) {i:Int} (h0:0≤i) (h1:i<xs.length):
 ∃ad,A=some ad∧M.cell? (ad.add (i.toNat*1))=some (.int k (xs.getD i.toNat 0)):=by
 obtain⟨ad,e,hc⟩:=Arr.at_ h (i:=i.toNat) (by simp;omega)
 refine⟨ad,e,?_⟩
 rw[Nat.mul_one,hc]
 have:i.toNat<xs.length:=by omega
 simp[List.getD,this]
theorem Ints.nil (M:Mem) (k:IntKind) (A:Oa):Ints M k A []:=.inl rfl
def IntRow (M:Mem) (k:IntKind) (h:Value) (xs:CD):Prop:=∃A cap,h=.slice A xs.length cap∧(xs.length≤cap∧(A=none→cap=0))∧Ints M k A xs
theorem IntRow.mono {M M':Mem} {k:IntKind} {h:Value} {xs:CD} (hr:IntRow M k h xs) (hM:M.le M'):IntRow M' k h xs:=by
 obtain⟨A,cap,h1,h2,h3⟩:=hr;exact⟨A,cap,h1,h2,h3.mono hM⟩
def Rows (M:Mem) (k:IntKind) (A:Oa) (xss:List CD):Prop:=∃hs:Lv,hs.length=xss.length∧Arr M A hs∧∀i,i<xss.length→IntRow M k (hs.getD i undef) (xss.getD i [])
theorem Rows.mono {M M':Mem} {k:IntKind} {A:Oa} {xss:List CD} (h:Rows M k A xss) (hM:M.le M'):Rows M' k A xss:=by
 obtain⟨hs,h1,h2,h3⟩:=h;exact⟨hs,h1,h2.mono hM,λi hi=>(h3 i hi).mono hM⟩
theorem Rows.at_ {M:Mem} {k:IntKind} {A:Oa} {xss:List CD} (h:Rows M k A xss) {i:Int} (h0:0≤i) (h1:i<xss.length):
 ∃ad,A=some ad∧∃B cap,M.cell? (ad.add (i.toNat*1))=some (.slice B (xss.getD i.toNat []).length cap)∧(xss.getD i.toNat []).length≤cap∧Ints M k B (xss.getD i.toNat []):=by
 obtain⟨hs,e1,e2,e3⟩:=h
 obtain⟨ad,e,hc⟩:=e2.at_ (i:=i.toNat) (by omega)
 obtain⟨B,cap,g1,g2,g3⟩:=e3 i.toNat (by omega)
 exact⟨ad,e,B,cap,by rw[Nat.mul_one,hc,g1],g2.1,g3⟩
section
variable {P:Program} {w:World} {ρ:Operand→Value} {o:Oper}
theorem nZ {t e sz:Nat} {x ix:Operand} {A:Oa} {ad:Addr} {len cap:Nat} {k:IntKind} {i:Int} (hA:A=some ad) (ho:o.op=.indexAddr t x ix) (hx:ρ x=.slice A len cap) (hi:ρ ix=.int k i) (ht:P.underlying t=some (.slice e))
 (hs:szIs P e sz=true) (h0:0≤i) (h1:i<len): (execOp ρ o).run P w=.ok (.value (.pointer (some (ad.add (i.toNat*sz))))) w:=iJ ho (by rw[hx,hA]) hi ht hs h0 h1
end
section
variable {w0 w:World} {M M':Mem} {H:List Ent} {b:Nat} {o:Obj}
def Mem.del (M:Mem) (b:Nat):Mem:=λi=>if i=b then none else M i
theorem Mem.le_del (h:M.le M') (hb:M b=none):M.le (M'.del b):=λi x hx=>by
 unfold Mem.del
 split
 ·rename_i e;subst e;rw[hb] at hx;cases hx
 exact h i x hx
theorem Mem.add_get (M:Mem) (b:Nat) (o:Obj):M.add b o b=some o:=by simp[Mem.add]
theorem Hp.start_le (h:Hp w0 M (.obj b o::H) w):w0.heap.size≤b:=(h.own _ List.mem_cons_self).1
theorem Hp.head_free (h:Hp w0 M (.obj b o::H) w):M b=none:=h.free _ List.mem_cons_self b rfl
theorem Hp.thaw (h:Hp w0 M' H w) (hM:M' b=some o) (hb:w0.heap.size≤b):Hp w0 (M'.del b) (.obj b o::H) w:=by
 refine⟨h.below,λi x hx=>?_,λe he=>?_,List.pairwise_cons.2 ⟨λe he i hi hi'=>?_,h.apart⟩,λe he i hi=>?_⟩
 ·unfold Mem.del at hx
  split at hx
  ·cases hx
  exact h.mem i x hx
 ·rcases List.mem_cons.1 he with rfl|he
  ·exact⟨hb,h.mem b o hM⟩
  exact h.own e he
 ·simp only[Ent.blk,Option.some.injEq] at hi
  subst hi
  have:=h.free e he _ hi'
  rw[hM] at this;cases this
 rcases List.mem_cons.1 he with rfl|he
 ·simp only[Ent.blk,Option.some.injEq] at hi;subst hi;simp[Mem.del]
 unfold Mem.del
 split
 ·rfl
 exact h.free e he i hi
def newTo (M:Mem) (A:Oa):Prop:=∀ad,A=some ad→M ad.block=none
theorem newTo.less {A:Oa} (h:newTo M' A) (hM:M.le M'):newTo M A:=λad e=>by
 have:=h ad e
 cases hx:M ad.block with
 |none=>rfl
 |some o=>rw[hM _ _ hx] at this;cases this
end
section
variable {P:Program} {ops:Array Oper} {n:Nat} {Q:Exit→Act→World→Prop} {L:Fr} {a:Act} {w0 w:World} {M:Mem} {H:List Ent}
def RetInts (M:Mem) (k:IntKind) (xs:CD) (M':Mem) (v:Value):Prop:=∃A cap,v=.slice A xs.length cap∧(xs.length≤cap∧(A=none→cap=0))∧Ints M' k A xs∧newTo M A
theorem Hp.rowInts {e:TypeId} {k:IntKind} {v:Value} {n:Nat} {xs:CD} (h:Hp w0 M (.row e 1 v n (xs.map (Value.int k))::H) w):
 ∃M',M.le M'∧Hp w0 M' H w∧RetInts M k xs M' v:=by
 rcases h.rowObj with⟨h1,h2,h3,h4⟩|⟨g,cap,cur,h1,h2,h3,h4,h5,h6,h7⟩
 ·have:xs=[]:=by simpa using h3
  subst this
  exact⟨M,Mem.le_refl M,h4,none,0,h1,⟨by simp,λ_=>rfl⟩,.inl rfl,λ_ e=>by cases e⟩
 obtain⟨k1,k2⟩:=h7.freeze
 have hn:n=xs.length:=by simpa using h6.symm
 subst hn
 refine⟨_,k1,k2,some ⟨g,0,none⟩,cap,h1,⟨h2,λe=>by cases e⟩,.inr ⟨_,rfl,λj u hu=>?_⟩,λad e=>?_⟩
 ·rw[Addr.add_lit,mz,←Array.getElem?_toList]
  have hj:j<xs.length*1:=h6▸ (List.getElem?_eq_some_iff.1 hu).1
  rw[←h5,List.getElem?_take_of_lt hj] at hu
  simpa using hu
 cases e;exact h7.head_free
theorem RetInts.more {k:IntKind} {xs:CD} {M0 M1 M2 M3:Mem} {v:Value} (h:RetInts M1 k xs M2 v) (h0:M0.le M1) (h2:M2.le M3):RetInts M0 k xs M3 v:=by
 obtain⟨A,cap,e1,e2,e3,e4⟩:=h
 exact⟨A,cap,e1,e2,e3.mono h2,e4.less h0⟩
end
end Go.Vc
namespace Go.Vc
open Go Go.RowKit
variable {dd:List Deferred}
section
variable {P:Program} {ops:Array Oper} {n:Nat} {C:World→Prop} {K:Act→Prop} {L:Fr} {a:Act} {w0 w:World} {M:Mem} {H:List Ent}
end
end Go.Vc
namespace Go.Vc
open Go Go.RowKit
variable {dd:List Deferred}
structure KeyLaw (P:Program) (t:TypeId) {κ:Type} [DecidableEq κ] (enc:κ→Value):Prop where
 desc: ∃d,P.underlying t=some d∧(∀a b,Instr.sameNow d (enc a) (enc b)=some (decide (a=b)))∧(∀w n e k,(Instr.checkKey e (n+1) t (enc k)).run P w=.ok () w)
 same: ∀a,Instr.sameBits 10000 (enc a) (enc a)=true
theorem intKey {P:Program} {t:TypeId} {k:IntKind} (h:P.underlying t=some (.int k)):KeyLaw P t (Value.int k):=by
 refine⟨⟨_,h,λa b=>by simp[Instr.sameNow];rfl,λw n e x=>?_⟩,λa=>by simp[Instr.sameBits]⟩
 unfold Instr.checkKey
 rw[Sem.run_bind,run_underlying h]
 rfl
theorem byteArray_beq (s t:ByteArray): (s==t)=(s.data==t.data):=rfl
theorem mkS_beq (a b:Bs): (mkS a==mkS b)=decide (a=b):=by
 rw[byteArray_beq,Bool.eq_iff_iff];simp
theorem strKey {P:Program} {t:TypeId} (h:P.underlying t=some .string):KeyLaw P t S:=by
 refine⟨⟨_,h,λa b=>?_,λw n e x=>?_⟩,λa=>by simp only[Instr.sameBits];rw[mkS_beq];simp⟩
 ·simp only[Instr.sameNow,Option.some.injEq];exact mkS_beq a b
 unfold Instr.checkKey
 rw[Sem.run_bind,run_underlying h]
 rfl
section
variable {κ:Type} [DecidableEq κ] {enc:κ→Value}
def mEnt (enc:κ→Value) (p: (κ×Value)×Nat):MapEntry:={key:=enc p.1.1,val:=p.1.2,born:=p.2}
def mObj (enc:κ→Value) (m:List (κ×Value)):Obj:=.map (m.zipIdx.map (mEnt enc)).toArray m.length
def lkAt (k:κ):List (κ×Value)→Nat→Option (Nat×Value)|[],_=>none|p::r,i=>if p.1=k then some (i,p.2) else lkAt k r (i+1)
theorem xD {d:TypeDesc} (h: ∀a b,Instr.sameNow d (enc a) (enc b)=some (decide (a=b))) (k:κ): ∀ (m:List (κ×Value)) (n j:Nat),
 Instr.findNow d (enc k) ((m.zipIdx n).map (mEnt enc)) j=some (lkAt k m j)
 |[],n,j=>rfl
 |p::r,n,j=>by
  simp only[List.zipIdx_cons,List.map_cons,Instr.findNow,mEnt,h,lkAt]
  by_cases e:p.1=k
  ·simp[e]
  have e': ¬k=p.1:=λx=>e x.symm
  simp only[e',decide_false,e,if_false]
  exact xD h k r (n+1) (j+1)
theorem wq {k:κ}: ∀ {m:List (κ×Value)} {j i:Nat} {v:Value},lkAt k m j=some (i,v)→j≤i∧m[i-j]? =some (k,v)
 |[],j,i,v,h=>by simp[lkAt] at h
 |p::r,j,i,v,h=>by
  simp only[lkAt] at h
  split at h
  ·rename_i e
   simp only[Option.some.injEq,Prod.mk.injEq] at h
   obtain⟨rfl,rfl⟩:=h
   exact⟨Nat.le_refl _,by simp[←e]⟩
  obtain⟨h1,h2⟩:=wq h
  refine⟨by omega,?_⟩
  rw[show i-j=(i- (j+1))+1 by omega]
  simpa using h2
theorem lkAt_none {k:κ}: ∀ {m:List (κ×Value)} {j:Nat},lkAt k m j=none↔k∉m.map (·.1)
 |[],j=>by simp[lkAt]
 |p::r,j=>by
  simp only[lkAt,List.map_cons,List.mem_cons]
  by_cases e:p.1=k
  ·simp[e]
  have e': ¬k=p.1:=λx=>e x.symm
  simp only[e,e',if_false,false_or]
  exact lkAt_none
def updM (m:List (κ×Value)) (k:κ) (v:Value):List (κ×Value):=match lkAt k m 0 with|some (i,_)=>m.set i (k,v)|none=>m++[(k,v)]
variable {P:Program} {w:World} {ρ:Operand→Value} {o:Oper}
theorem gF {b:Nat} {x:Obj} (h:w.heap[b]? =some x) (hn: ∀c t f,x≠ .cells c t f): (getObj b).run P w=.ok x w:=by
 simp only[getObj,Sem.run,h]
theorem oh {κ:Type} {enc:κ→Value} (m:List (κ×Value)): ∀c t f,mObj enc m≠ .cells c t f:=λ_ _ _ h=>by simp[mObj] at h
theorem X_lookup {t kt et:TypeId} {x ix:Operand} {ok:Bool} {b:Nat} {m:List (κ×Value)} {k:κ} {z:Value} (ho:o.op=.lookup t x ix ok) (hx:ρ x=.map (some b)) (hk:ρ ix=enc k) (ht:P.underlying t=some (.map kt et)) (K:KeyLaw P kt enc)
 (hz: (P.info? et).bind (·.zero)=some z) (hb:w.heap[b]? =some (mObj enc m)):
 (execOp ρ o).run P w=.ok (.value (if ok then .tuple #[((lkAt k m 0).map (·.2)).getD z,.bool (lkAt k m 0).isSome] else((lkAt k m 0).map (·.2)).getD z)) w:=by
 obtain⟨d,h1,h2,h3⟩:=K.desc
 have hzero: (zeroValue et).run P w=.ok z w:=by
  cases hi:P.info? et with
  |none=>simp[hi] at hz
  |some i=>simp only[hi,Option.bind_some] at hz;simp[zeroValue,typeInfo,hi,hz]
 have hg: (getObj b).run P w=.ok (mObj enc m) w:=gF hb (oh m)
 unfold execOp
 simp only[ho,hx,hk,Instr.lookup,Sem.run_bind,run_underlying ht,Result.andThen_ok,hg]
 simp only[mObj,Sem.run_bind,Sem.run_pure,Result.andThen_ok,h3 w 9999,Instr.findKey,run_underlying h1,xD h2 k m 0 0]
 cases lkAt k m 0 with
 |none=>simp[hzero]
 |some p=>simp
theorem xM {b:Nat} {x y:Obj} (h:w.heap[b]? =some x) (hn: ∀c t f,x≠ .cells c t f): (setObj b y).run P w=.ok () {w with heap:=w.heap.setIfInBounds b y}:=by
 simp only[setObj,Sem.run,h]
theorem set_ent {κ:Type} {enc:κ→Value} (m:List (κ×Value)) (i:Nat) (k:κ) (v u:Value) (h:m[i]? =some (k,u)):
 (m.zipIdx.map (mEnt enc)).toArray.modify i (λe=>{e with key:=enc k,val:=v})=((m.set i (k,v)).zipIdx.map (mEnt enc)).toArray:=by
 apply Array.ext'
 apply List.ext_getElem?
 intro j
 rw[Array.getElem?_toList,Array.getElem?_modify]
 simp only[List.getElem?_toArray,List.getElem?_map,List.getElem?_zipIdx,List.getElem?_set,Option.map_map]
 by_cases e:i=j
 ·subst e
  have hlt:i<m.length:=(List.getElem?_eq_some_iff.1 h).1
  simp[hlt,mEnt]
 simp[e]
theorem X_mapUpdate {t kt et:TypeId} {x ix y:Operand} {b:Nat} {m:List (κ×Value)} {k:κ} {v:Value} (ho:o.op=.mapUpdate t x ix y∨o.op=.insert t x ix y) (hx:ρ x=.map (some b)) (hk:ρ ix=enc k) (hv:ρ y=v) (ht:P.underlying t=some (.map kt et)) (K:KeyLaw P kt enc)
 (hb:w.heap[b]? =some (mObj enc m)): (execOp ρ o).run P w=.ok .skip {w with heap:=w.heap.setIfInBounds b (mObj enc (updM m k v))}:=by
 obtain⟨d,h1,h2,h3⟩:=K.desc
 have hg: (getObj b).run P w=.ok (mObj enc m) w:=gF hb (oh m)
 have hs: ∀y:Obj,(setObj b y).run P w=.ok () {w with heap:=w.heap.setIfInBounds b y}:=λy=>xM hb (oh m)
 have main: (Instr.mapUpdate t (.map (some b)) (enc k) v).run P w=.ok () {w with heap:=w.heap.setIfInBounds b (mObj enc (updM m k v))}:=by
  simp only[Instr.mapUpdate,Sem.run_bind,run_underlying ht,Result.andThen_ok,hg]
  simp only[mObj,Sem.run_bind,Result.andThen_ok,h3 w 9999,Instr.findKey,run_underlying h1,xD h2 k m 0 0,Sem.run_pure]
  cases hl:lkAt k m 0 with
  |none=>
   simp only[hs,updM,hl]
   congr 4
   ·apply Array.ext';simp[List.zipIdx_append,mEnt]
   simp
  |some p=>
   obtain⟨i,u⟩:=p
   have hm:=(wq hl).2
   simp only[Nat.sub_zero] at hm
   have hkey: ((m.zipIdx.map (mEnt enc)).toArray[i]?.map (·.key)).getD (enc k)=enc k:=by
    simp[List.getElem?_zipIdx,hm,mEnt]
   simp only[hkey,Instr.keyThatStays,K.same,if_true,Sem.run_bind,Sem.run_pure,Result.andThen_ok,hs,updM,hl]
   rw[set_ent m i k v u hm]
   simp
 unfold execOp
 rcases ho with ho|ho<;>simp only[ho,hx,hk,hv,Sem.run_bind,main]<;>rfl
end
end Go.Vc
namespace Go.Vc
open Go Go.RowKit
variable {dd:List Deferred}
section
variable {κ:Type} {enc:κ→Value} {P:Program} {w:World} {ρ:Operand→Value} {o:Oper}
theorem X_range {t kt et:TypeId} {x:Operand} {b:Nat} {m:List (κ×Value)} (ho:o.op=.range t x) (hx:ρ x=.map (some b)) (ht:P.underlying t=some (.map kt et)) (hb:w.heap[b]? =some (mObj enc m)):
 (execOp ρ o).run P w=.ok (.value (.pointer (some ⟨w.heap.size,0,none⟩))) (w.alloc (.mapIter (some b) m.length #[] m.length)):=by
 have hg: (getObj b).run P w=.ok (mObj enc m) w:=gF hb (oh m)
 unfold execOp
 simp only[ho,hx,Instr.range,Sem.run_bind,run_underlying ht,Result.andThen_ok,hg]
 rfl
theorem X_range_nil {t kt et:TypeId} {x:Operand} (ho:o.op=.range t x) (hx:ρ x=.map none) (ht:P.underlying t=some (.map kt et)):
 (execOp ρ o).run P w=.ok (.value (.pointer (some ⟨w.heap.size,0,none⟩))) (w.alloc (.mapIter none 0 #[] 0)):=by
 unfold execOp
 simp only[ho,hx,Instr.range,Sem.run_bind,run_underlying ht,Result.andThen_ok]
 rfl
theorem X_next_nil {x:Operand} {r:Nat} (ho:o.op=.next x false) (hx:ρ x=.pointer (some ⟨r,0,none⟩)) (hr:w.heap[r]? =some (.mapIter none 0 #[] 0)):
 (execOp ρ o).run P w=.ok (.value (.tuple #[.bool false])) w:=by
 have hg: (getObj r).run P w=.ok (.mapIter none 0 #[] 0) w:=gF hr (by intro _ _ _ h;cases h)
 unfold execOp
 simp only[ho,hx,Instr.next,Sem.run_bind,hg,Result.andThen_ok]
 rfl
def todo (m:List (κ×Value)) (seen:Array Nat):List ((κ×Value)×Nat):=m.zipIdx.filter λp=> !seen.contains p.2
theorem todo_map (m:List (κ×Value)) (seen:Array Nat): ((m.zipIdx.map (mEnt enc)).toArray.filter λe=> !seen.contains e.born)=((todo m seen).map (mEnt enc)).toArray:=by
 apply Array.ext'
 simp only[todo,Array.toList_filter,List.filter_map]
 rfl
theorem todo_mem {m:List (κ×Value)} {seen:Array Nat} {p: (κ×Value)×Nat} (h:p∈todo m seen):m[p.2]? =some p.1∧p.2<m.length∧p.2∉seen:=by
 obtain⟨h1,h2⟩:=List.mem_filter.1 h
 have h3:=List.mem_zipIdx h1
 refine⟨?_,by omega,by simpa using h2⟩
 obtain⟨a,b,c⟩:=h3
 simp only[Nat.sub_zero] at c
 rw[c]
 exact List.getElem?_eq_getElem _
theorem X_next {x:Operand} {r b:Nat} {m:List (κ×Value)} {seen:Array Nat} (ho:o.op=.next x false) (hx:ρ x=.pointer (some ⟨r,0,none⟩)) (hr:w.heap[r]? =some (.mapIter (some b) m.length seen m.length))
 (hb:w.heap[b]? =some (mObj enc m)):
 ∃w1:World,w1.heap=w.heap∧w1.os=w.os∧w1.tape=w.tape∧w1.output=w.output∧
  ((todo m seen=[]∧(execOp ρ o).run P w=.ok (.value (.tuple #[.bool false])) w1)∨
   ∃p∈todo m seen,(execOp ρ o).run P w=.ok (.value (.tuple #[.bool true,enc p.1.1,p.1.2])) {w1 with heap:=w1.heap.setIfInBounds r (.mapIter (some b) m.length (seen.push p.2) m.length)}):=by
 have hg: (getObj r).run P w=.ok (.mapIter (some b) m.length seen m.length) w:=gF hr (by intro _ _ _ h;cases h)
 have hg2: (getObj b).run P w=.ok (mObj enc m) w:=gF hb (oh m)
 have hguard: (!seen.isEmpty&& !((m.zipIdx.map (mEnt enc)).toArray).isEmpty&& ((m.zipIdx.map (mEnt enc)).toArray.all (·.born≥m.length)))=false:=by
  cases hm:m with
  |nil=>simp
  |cons p q=>
   have: ((((p::q).zipIdx.map (mEnt enc)).toArray).all (·.born≥ (p::q).length))=false:=by
    simp[List.zipIdx_cons,mEnt]
   rw[this];simp
 have hold: ((((todo m seen).map (mEnt enc)).toArray).filter (·.born<m.length))=((todo m seen).map (mEnt enc)).toArray:=by
  apply Array.filter_eq_self.2
  intro e he
  simp only[List.mem_toArray,List.mem_map] at he
  obtain⟨p,hp,rfl⟩:=he
  exact dT (todo_mem hp).2.1
 have hnew: ((((todo m seen).map (mEnt enc)).toArray).filter (·.born≥m.length))=#[]:=by
  apply Array.filter_eq_empty_iff.2
  intro e he
  simp only[List.mem_toArray,List.mem_map] at he
  obtain⟨p,hp,rfl⟩:=he
  have:=(todo_mem hp).2.1
  simp[mEnt];omega
 let cands:Array (Option MapEntry):=(if (((todo m seen).map (mEnt enc)).toArray).isEmpty then #[none] else #[])++((((todo m seen).map (mEnt enc)).toArray)++#[]).map some
 have hrun: ∀ (i:Nat) (w1:World),(choose (.mapNext cands.size)).run P w=.ok i w1→w1.heap=w.heap→
  (execOp ρ o).run P w=((match cands[i]? with
   |some (some e)=>do setObj r (.mapIter (some b) m.length (seen.push e.born) m.length);pure (Value.tuple #[.bool true,e.key,e.val])
   |some none=>pure (Value.tuple #[.bool false])
   |none=>stuck "Next: no such candidate").run P w1).andThen λv w'=>.ok (.value v) w':=by
  intro i w1 hc _
  unfold execOp
  simp only[ho,hx,Instr.next,Sem.run_bind,hg,Result.andThen_ok,mObj] at hg2 ⊢
  simp only[hg2,Result.andThen_ok]
  simp only[hguard,Bool.false_eq_true,if_false,todo_map,hold,hnew,Sem.run_bind,Sem.run_pure]
  have hc':=hc
  simp only[cands] at hc'
  rw[hc']
  rfl
 have hch: ∃i w1,(choose (.mapNext cands.size)).run P w=.ok i w1∧w1.heap=w.heap∧w1.os=w.os∧w1.tape=w.tape∧w1.output=w.output∧i<cands.size:=by
  have hpos:0<cands.size:=by
   simp only[cands]
   cases htd:todo m seen with
   |nil=>simp
   |cons p q=>simp
  by_cases h1:cands.size≤1
  · exact⟨0,w,by simp[Question.forced,h1],rfl,rfl,rfl,rfl,hpos⟩
  exact⟨(Question.mapNext cands.size).cut (w.tape w.drawn (.mapNext cands.size)),{w with drawn:=w.drawn+1},by simp[Question.forced,h1],rfl,rfl,rfl,rfl,Nat.mod_lt _ hpos⟩
 obtain⟨i,w1,hc,e1,e2,e3,e4,hi⟩:=hch
 have hx':=hrun i w1 hc e1
 refine⟨w1,e1,e2,e3,e4,?_⟩
 cases htd:todo m seen with
 |nil=>
  left
  have hcs:cands=#[none]:=by simp[cands,htd]
  rw[hcs] at hx' hi
  have hi0:i=0:=by simpa using hi
  subst hi0
  exact⟨rfl,by simpa using hx'⟩
 |cons p0 q0=>
  right
  have hcs:cands=(((todo m seen).map (mEnt enc)).toArray).map some:=by simp[cands,htd]
  rw[hcs] at hx' hi
  simp only[Array.size_map,List.size_toArray,List.length_map] at hi
  refine⟨(todo m seen)[i],by rw[←htd];exact List.getElem_mem _,?_⟩
  have hget: ((((todo m seen).map (mEnt enc)).toArray).map some)[i]? =some (some (mEnt enc (todo m seen)[i])):=by
   simp[hi]
  rw[hget] at hx'
  have hs: ∀y:Obj,(setObj r y).run P w1=.ok () {w1 with heap:=w1.heap.setIfInBounds r y}:=λy=>xM (x:=.mapIter (some b) m.length seen m.length) (by rw[e1];exact hr) (by intro _ _ _ h;cases h)
  simp only[Sem.run_bind,hs,Result.andThen_ok,Sem.run_pure] at hx'
  exact hx'
theorem X_entry {x:Operand} {r b j:Nat} {m:List (κ×Value)} {seen:Array Nat} {p:κ×Value} (ho:o.op=.entry x) (hx:ρ x=.pointer (some ⟨r,0,none⟩)) (hr:w.heap[r]? =some (.mapIter (some b) m.length (seen.push j) m.length))
 (hb:w.heap[b]? =some (mObj enc m)) (hj:m[j]? =some p): (execOp ρ o).run P w=.ok (.value (.tuple #[enc p.1,p.2])) w:=by
 have hg: (getObj r).run P w=.ok (.mapIter (some b) m.length (seen.push j) m.length) w:=gF hr (by intro _ _ _ h;cases h)
 have hg2: (getObj b).run P w=.ok (mObj enc m) w:=gF hb (oh m)
 have hfind: ∀ (l:List (κ×Value)) (n j:Nat) (q:κ×Value),l[j]? =some q→((l.zipIdx n).map (mEnt enc)).find? (λe=>e.born==n+j)=some (mEnt enc (q,n+j)):=by
  intro l
  induction l with
  |nil=>intro n j q h;simp at h
  |cons a l ih=>
   intro n j q h
   cases j with
   |zero=>
    simp only[List.getElem?_cons_zero,Option.some.injEq] at h
    subst h
    simp[List.zipIdx_cons,mEnt]
   |succ j=>
    simp only[List.getElem?_cons_succ] at h
    have:=ih (n+1) j q h
    rw[List.zipIdx_cons,List.map_cons,List.find?_cons_of_neg (by simp[mEnt])]
    rw[show n+ (j+1)=n+1+j by omega]
    exact this
 have hf:=hfind m 0 j p hj
 simp only[Nat.zero_add] at hf
 unfold execOp
 simp only[ho,hx,Instr.entry,Sem.run_bind,hg,Result.andThen_ok,Array.back?_push,mObj] at hg2 ⊢
 simp only[hg2,Result.andThen_ok]
 simp[hf,mEnt]
end
section
variable {κ:Type} {enc:κ→Value} {P:Program} {ops:Array Oper} {n:Nat} {Q:Exit→Act→World→Prop} {L:Fr} {a:Act} {w0 w:World} {M:Mem} {H:List Ent}
theorem Hp.ownObj {b:Nat} {x:Obj} (h:Hp w0 M H w) (i:Nat) (he:H[i]? =some (.obj b x)):w.heap[b]? =some x:=(h.own _ (List.mem_of_getElem? he)).2
theorem Hp.put {b:Nat} {x y:Obj} (h:Hp w0 M (.obj b x::H) w):Hp w0 M (.obj b y::H) {w with heap:=w.heap.setIfInBounds b y}:=by
 have hb:=(h.own _ List.mem_cons_self).2
 have hlt:=lG hb
 refine h.write rfl rfl rfl (by simp) (by simp[hlt]) (λk hk=>?_)
 simp only[Array.getElem?_setIfInBounds]
 rw[if_neg (λe=>hk e.symm)]
theorem Hp.sameHeap {w1:World} (h:Hp w0 M H w) (e1:w1.heap=w.heap) (e2:w1.os=w.os) (e3:w1.tape=w.tape) (e4:w1.output=w.output):Hp w0 M H w1:=
 ⟨⟨e2.trans h.below.os,e3.trans h.below.tape,e4.trans h.below.output,by rw[e1];exact h.below.size,λk hk=>by rw[e1];exact h.below.block k hk⟩,
  λb o hb=>by rw[e1];exact h.mem b o hb,λe he=>Ent.owns_keep (h.own e he) λ_ _=>by rw[e1],h.apart,h.free⟩
theorem zq [DecidableEq κ] {o:Oper} {rest:List Oper} {t kt et:TypeId} {x ix y:Operand} {b:Nat} {m:List (κ×Value)} {k:κ} {v:Value} (hf:Frm n L a dd) (hp:Hp w0 M (.obj b (mObj enc m)::H) w) (hw:bv ops L o=some true) (hr:bX L o=true) (hd:o.dst=none)
 (ho:o.op=.mapUpdate t x ix y∨o.op=.insert t x ix y) (hx:ev L x=.map (some b)) (hk:ev L ix=enc k) (hv:ev L y=v) (ht:P.underlying t=some (.map kt et)) (K:KeyLaw P kt enc)
 (hq: ∀w',Hp w0 M (.obj b (mObj enc (updM m k v))::H) w'→∀a',Frm n L a' dd→wpList P ops Q rest a' w'):wpList P ops Q (o::rest) a w:=
 xy hf hw hr hd (X_mapUpdate ho hx hk hv ht K (hp.ownObj 0 rfl)) (hq _ hp.put)
theorem W_next {o:Oper} {rest:List Oper} {d:Nat} {x:Operand} {r b:Nat} {m:List (κ×Value)} {seen:Array Nat} (hf:Frm n L a dd) (hp:Hp w0 M (.obj r (.mapIter (some b) m.length seen m.length)::H) w) (hw:bv ops L o=some true) (hr:bX L o=true)
 (hd:o.dst=some d) (hdn:Nat.blt d n=true) (ho:o.op=.next x false) (hx:ev L x=.pointer (some ⟨r,0,none⟩)) (hb:w.heap[b]? =some (mObj enc m))
 (hover:todo m seen=[]→∀w',Hp w0 M (.obj r (.mapIter (some b) m.length seen m.length)::H) w'→∀a',Frm n ((d,.tuple #[.bool false])::L) a' dd→wpList P ops Q rest a' w')
 (hstep: ∀p∈todo m seen,∀w',Hp w0 M (.obj r (.mapIter (some b) m.length (seen.push p.2) m.length)::H) w'→∀a',Frm n ((d,.tuple #[.bool true,enc p.1.1,p.1.2])::L) a' dd→wpList P ops Q rest a' w'):
 wpList P ops Q (o::rest) a w:=by
 obtain⟨w1,e1,e2,e3,e4,h⟩:=X_next (P:=P) ho hx (hp.ownObj 0 rfl) hb
 have hp1:=hp.sameHeap e1 e2 e3 e4
 rcases h with⟨h1,h2⟩|⟨p,hpm,h2⟩
 ·exact Af hf hw hr hd hdn h2 (hover h1 w1 hp1)
 exact Af hf hw hr hd hdn h2 (hstep p hpm _ hp1.put)
theorem W_range {o:Oper} {rest:List Oper} {d:Nat} {t kt et:TypeId} {x:Operand} {b:Nat} {m:List (κ×Value)} (hf:Frm n L a dd) (hp:Hp w0 M H w) (hw:bv ops L o=some true) (hr:bX L o=true)
 (hd:o.dst=some d) (hdn:Nat.blt d n=true) (ho:o.op=.range t x) (hx:ev L x=.map (some b)) (ht:P.underlying t=some (.map kt et)) (hb:w.heap[b]? =some (mObj enc m))
 (hk: ∀r w',Hp w0 M (.obj r (.mapIter (some b) m.length #[] m.length)::H) w'→∀a',Frm n ((d,.pointer (some ⟨r,0,none⟩))::L) a' dd→wpList P ops Q rest a' w'):wpList P ops Q (o::rest) a w:=
 Af hf hw hr hd hdn (X_range ho hx ht hb) (hk _ _ (hp.alloc _))
theorem W_range_nil {o:Oper} {rest:List Oper} {d:Nat} {t kt et:TypeId} {x:Operand} (hf:Frm n L a dd) (hp:Hp w0 M H w) (hw:bv ops L o=some true) (hr:bX L o=true)
 (hd:o.dst=some d) (hdn:Nat.blt d n=true) (ho:o.op=.range t x) (hx:ev L x=.map none) (ht:P.underlying t=some (.map kt et))
 (hk: ∀r w',Hp w0 M (.obj r (.mapIter none 0 #[] 0)::H) w'→∀a',Frm n ((d,.pointer (some ⟨r,0,none⟩))::L) a' dd→wpList P ops Q rest a' w'):wpList P ops Q (o::rest) a w:=
 Af hf hw hr hd hdn (X_range_nil ho hx ht) (hk _ _ (hp.alloc _))
end
end Go.Vc
namespace Go.Vc
open Go Go.RowKit Go.Sort
variable {dd:List Deferred}
section
variable {w0 w:World} {M:Mem} {H:List Ent} {b:Nat}
theorem Hp.grow_ (h:Hp w0 M H w) (os:Array Obj):Hp w0 M H (grow w os):=by
 have hk: ∀k,k<w.heap.size→(grow w os).heap[k]? =w.heap[k]? :=λk hk=>by simp[grow,Array.getElem?_append,hk]
 refine⟨⟨h.below.os,h.below.tape,h.below.output,?_,λk hk'=>?_⟩,λk o ho=>?_,λe he=>Ent.owns_keep (h.own e he) λk hb=>hk k (Ent.blk_lt (h.own e he) hb).2,h.apart,h.free⟩
 ·have:=h.below.size
  simp[grow];omega
 ·rw[hk k (by have:=h.below.size;omega)];exact h.below.block k hk'
 have:=h.mem k o ho
 rw[hk k (lG this)];exact this
theorem Hp.mapCells {cur:Array Value} {e:TypeId} {fr:Nat×Nat} (h:Hp w0 M (.obj b (.cells cur e fr)::H) w) (f:Array Value→Array Value):Hp w0 M (.obj b (.cells (f cur) e fr)::H) (mapBlock w b f):=by
 have hb:=(h.own _ List.mem_cons_self).2
 refine h.write rfl rfl rfl (by simp[mapBlock]) (by simp[mapBlock,Array.getElem?_modify,hb,onCells]) (λk hk=>?_)
 simp only[mapBlock,Array.getElem?_modify]
 rw[if_neg (λe=>hk e.symm)]
end
theorem Ok.ofPure {P:Program} {M:Mem} {f:FuncId} {args:Lv} {v:Value} (h: ∀w,Calls P f args.toArray w λe w'=>e=.returned v∧w'=w):Ok P M f args λ_ u=>u=v:=
 λM2 _ _ _ w hp=>(h w).mono λ_ _ ⟨he,hw⟩=>⟨v,he,M2,Mem.le_refl _,hw▸hp,rfl⟩
theorem sortRow {α:Type} [Inhabited α] {P:Program} {f:FuncId} {e:TypeId} {enc:α→Value} {zs ys:List α} (hl:ys.length=zs.length)
 (hS: ∀blk off cap w,Holds enc w blk off zs.toArray→blk<w.heap.size→Calls P f #[.slice (some ⟨blk,off,none⟩) zs.length cap] w λe w'=>e=.returned (.tuple #[])∧∃n os,w'=grow (putRow enc (Sort.ahead w n) blk off ys.toArray) os)
 (hN:zs=[]→∀M,Ok P M f [.slice none 0 0] λ_ u=>u=.tuple #[]) (M:Mem) (v:Value):
 OkH P M [.row e 1 v zs.length (zs.map enc)] f [v] λ_ E' u=>u=.tuple #[]∧E'=[.row e 1 v zs.length (ys.map enc)]:=by
 intro M2 hM w0 H w hp
 rcases hp.rowObj with⟨h1,h2,h3,h4⟩|⟨g,cap,cur,h1,h2,h3,h4,h5,h6,h7⟩
 ·have hz:zs=[]:=List.eq_nil_of_length_eq_zero h2
  have hy:ys=[]:=List.eq_nil_of_length_eq_zero (by rw[hl,h2])
  subst h1
  refine(hN hz M2 M2 (Mem.le_refl _) w0 H w h4).mono λ_ _ ⟨u,he,M',hM',hp',hu⟩=>⟨u,he,M',_,hM',?_,hu,rfl⟩
  subst hz;subst hy
  exact hp'.nilRow _ _
 subst h1
 have hcell: ∀j,j<zs.length→cur[j]? =(zs.map enc)[j]? :=λj hj=>by
  rw[←h5,List.getElem?_take_of_lt (by omega),Array.getElem?_toList]
 have hH:Holds enc w g 0 zs.toArray:=λj hj=>by
  have hj':j<zs.length:=by simpa using hj
  refine⟨?_,?_⟩
  ·rw[Nat.zero_add,h7.ownCell 0 rfl,hcell j hj']
   simp[hj']
  rw[Nat.zero_add]
  exact h7.ownFrozen 0 rfl j (by omega)
 have hg:g<w.heap.size:=lG (h7.own _ List.mem_cons_self).2
 refine(hS g 0 cap w hH hg).mono λ_ w' ⟨he,n,os,hw⟩=>⟨_,he,M2,_,Mem.le_refl _,?_,rfl,rfl⟩
 subst hw
 have h8:Hp w0 M2 (.obj g (.cells cur e (0,0))::H) (Sort.ahead w n):=h7.sameHeap rfl rfl rfl rfl
 have h9:=(h8.mapCells (putCells enc 0 ys.toArray)).grow_ os
 have hcs:cap≤cur.size:=by have:=h4.1;omega
 have hlen:zs.length≤cap:=h2
 refine h9.objRow h2 h3 (by simpa [putCells] using h4) ?_ (by simp[hl])
 apply List.ext_getElem?
 intro j
 by_cases hj:j<zs.length
 ·rw[List.getElem?_take_of_lt (by omega),Array.getElem?_toList]
  have hjc:j<cur.size:=by omega
  have hjy:j<ys.length:=by omega
  simp[putCells,hjc,hjy]
 rw[List.getElem?_eq_none (by simp;omega),List.getElem?_eq_none (by simp;omega)]
end Go.Vc
namespace Go.Vc
open Go Go.RowKit
variable {dd:List Deferred}
section
variable {κ:Type}
theorem perm_filter {l:List ((κ×Value)×Nat)} (h:l.Pairwise λx y=>x.2≠y.2): ∀ {p},p∈l→l.Perm (p::l.filter λq=>decide (q.2≠p.2)):=by
 induction l with
 |nil=>intro p hp;cases hp
 |cons x r ih=>
  intro p hp
  obtain⟨h1,h2⟩:=List.pairwise_cons.1 h
  rcases List.mem_cons.1 hp with rfl|hp
  ·rw[List.filter_cons_of_neg (by simp)]
   rw[List.filter_eq_self.2 λq hq=>by simpa using (h1 q hq).symm]
  rw[List.filter_cons_of_pos (by simpa using h1 p hp)]
  exact((ih h2 hp).cons x).trans (.swap p x _)
theorem todo_push (m:List (κ×Value)) (seen:Array Nat) (i:Nat):todo m (seen.push i)=(todo m seen).filter λq=>decide (q.2≠i):=by
 unfold todo
 rw[List.filter_filter]
 congr 1
 funext q
 simp only[Array.contains_push]
 by_cases h:q.2=i<;>simp[h]
theorem todo_apart (m:List (κ×Value)) (seen:Array Nat): (todo m seen).Pairwise λx y=>x.2≠y.2:=by
 have: ∀ (m:List (κ×Value)) (n:Nat),(m.zipIdx n).Pairwise λx y=>x.2≠y.2:=by
  intro m
  induction m with
  |nil=>intro n;exact .nil
  |cons a r ih=>
   intro n
   rw[List.zipIdx_cons]
   refine List.pairwise_cons.2 ⟨λq hq=>?_,ih _⟩
   have:=(List.mem_zipIdx hq).1
   simp only;omega
 exact(this m 0).filter _
theorem todo_step {m:List (κ×Value)} {seen:Array Nat} {p: (κ×Value)×Nat} (h:p∈todo m seen): (todo m seen).Perm (p::todo m (seen.push p.2)):=by
 rw[todo_push];exact perm_filter (todo_apart m seen) h
theorem todo_less {m:List (κ×Value)} {seen:Array Nat} {p: (κ×Value)×Nat} (h:p∈todo m seen): (todo m (seen.push p.2)).length<(todo m seen).length:=by
 have:=(todo_step h).length_eq
 simp at this;omega
def CollI (m:List (κ×Value)) (seen:Array Nat) (xs:List κ):Prop:=((todo m seen).map (·.1.1)++xs).Perm (m.map (·.1))
theorem CollI.start (m:List (κ×Value)):CollI m #[] []:=by
 have h:todo m #[]=m.zipIdx:=List.filter_eq_self.2 λq _=>by simp
 unfold CollI
 rw[h,List.append_nil]
 have: ∀ (m:List (κ×Value)) (n:Nat),(m.zipIdx n).map (·.1.1)=m.map (·.1):=by
  intro m
  induction m with
  |nil=>intro n;rfl
  |cons a r ih=>intro n;rw[List.zipIdx_cons,List.map_cons,List.map_cons,ih]
 rw[this]
theorem CollI.step {m:List (κ×Value)} {seen:Array Nat} {xs:List κ} {p: (κ×Value)×Nat} (h:CollI m seen xs) (hp:p∈todo m seen):CollI m (seen.push p.2) (xs++[p.1.1]):=by
 unfold CollI at*
 have h1:=((todo_step hp).map λq=>q.1.1).append_right xs
 refine List.Perm.trans ?_ (h1.symm.trans h)
 rw[List.map_cons,←List.append_assoc]
 exact(List.perm_append_singleton _ _)
theorem CollI.all {m:List (κ×Value)} {seen:Array Nat} {xs:List κ} (h:CollI m seen xs) (h0:todo m seen=[]):xs.Perm (m.map (·.1)):=by
 unfold CollI at h;rw[h0] at h;simpa using h
theorem CollI.len {m:List (κ×Value)} {seen:Array Nat} {xs:List κ} (h:CollI m seen xs):xs.length≤m.length:=by
 have:=h.length_eq
 simp at this;omega
end
def rise (xs:CD):CD:=xs.mergeSort λx y=>decide (x≤y)
theorem rise_perm {xs ys:CD} (h:xs.Perm ys):rise xs=rise ys:=by
 have tot: ∀a b:Int,(decide (a≤b)||decide (b≤a))=true:=λa b=>by simp;omega
 have tr: ∀a b c:Int,decide (a≤b)=true→decide (b≤c)=true→decide (a≤c)=true:=λa b c h1 h2=>by simp at*;omega
 have h1:=List.pairwise_mergeSort (le:=λx y:Int=>decide (x≤y)) tr tot xs
 have h2:=List.pairwise_mergeSort (le:=λx y:Int=>decide (x≤y)) tr tot ys
 refine List.Perm.eq_of_pairwise (le:=λx y:Int=>decide (x≤y)=true) ?_ h1 h2 ((List.mergeSort_perm xs _).trans (h.trans (List.mergeSort_perm ys _).symm))
 intro a b _ _ h1 h2
 simp at h1 h2;omega
theorem rise_nil:rise []=[]:=by simp[rise]
theorem rise_len (xs:CD): (rise xs).length=xs.length:=List.length_mergeSort _
end Go.Vc
namespace Go.Vc
open Go Go.RowKit
variable {dd:List Deferred}
section
variable {P:Program} {ops:Array Oper} {n:Nat} {Q:Exit→Act→World→Prop} {L:Fr} {a:Act} {w0 w:World} {M:Mem} {H:List Ent}
theorem madeOne (z:Value) (m:Nat):madeCells #[z] m=(List.replicate m z).toArray:=by
 apply Array.ext'
 simp only[madeCells]
 simp[Nat.mod_one,List.map_const']
theorem W_make {o:Oper} {rest:List Oper} {d:Nat} {t e:TypeId} {l c:Operand} {z:Value} {bytes m:Nat} (hf:Frm n L a dd) (hp:Hp w0 M H w) (hw:bv ops L o=some true) (hr:bX L o=true)
 (hd:o.dst=some d) (hdn:Nat.blt d n=true) (ho:o.op=.makeSlice t l c) (hl:ev L l=.int .i64 (m:Int)) (hc:ev L c=.int .i64 (m:Int)) (ht:P.underlying t=some (.slice e)) (hinfo: (P.info? e).map (λi=>(i.zero,i.size,i.bytes))=some (some z,1,bytes)) (hz:z.cells=#[z])
 (hb:bytes*m≤281474976710656) (h63:m≤9223372036854775807)
 (hk: ∀b w',Hp w0 M (.obj b (.cells (List.replicate m z).toArray e (0,0))::H) w'→∀a',Frm n ((d,.slice (some ⟨b,0,none⟩) m m)::L) a' dd→wpList P ops Q rest a' w'):wpList P ops Q (o::rest) a w:=by
 have hx: (execOp (ev L) o).run P w=.ok (.value (.slice (some ⟨w.heap.size,0,none⟩) m m)) (w.alloc (.cells (List.replicate m z).toArray e (0,0))):=by
  have:=run_make_row' (P:=P) t e z bytes ht hinfo hz .i64 .i64 m hb h63 w
  rw[madeOne] at this
  unfold execOp
  simp only[ho,hl,hc,Sem.run_bind,this,Result.andThen_ok]
  rfl
 exact Af hf hw hr hd hdn hx (hk _ _ (hp.alloc _))
end
section
variable {κ:Type} {enc:κ→Value} {w0 w:World} {M:Mem} {H:List Ent}
abbrev MapRow (κ:Type):=List (Option (Nat×List (κ×Value)))
def hdOf {κ:Type}:Option (Nat×List (κ×Value))→Value|none=>.map none|some (b,_)=>.map (some b)
def keysOf {κ:Type}:Option (Nat×List (κ×Value))→List κ|none=>[]|some (_,m)=>m.map (·.1)
def entOf (enc:κ→Value):Option (Nat×List (κ×Value))→Option Ent|none=>none|some (b,m)=>some (.obj b (mObj enc m))
def bag (enc:κ→Value) (G:MapRow κ):List Ent:=G.filterMap (entOf enc)
theorem bag_none (enc:κ→Value) (n:Nat):bag enc (List.replicate n none)=[]:=by
 unfold bag
 rw[List.filterMap_eq_nil_iff]
 intro x hx
 rw[List.eq_of_mem_replicate hx];rfl
theorem hd_none (κ:Type) (n:Nat): ((List.replicate n none:MapRow κ).map hdOf)=List.replicate n (.map none):=by simp[hdOf]
theorem bag_set {enc:κ→Value}: ∀ {G:MapRow κ} {k:Nat} (b:Nat) (m:List (κ×Value)),k<G.length→(bag enc (G.set k (some (b,m)))).Perm (.obj b (mObj enc m)::bag enc (G.set k none))
 |[],k,b,m,h=>by simp at h
 |x::r,0,b,m,h=>by simp only[List.set_cons_zero,bag,List.filterMap_cons,entOf];exact .refl _
 |x::r,k+1,b,m,h=>by
  simp only[List.length_cons,Nat.add_lt_add_iff_right] at h
  have ih:=bag_set (enc:=enc) b m h
  unfold bag at ih ⊢
  simp only[List.set_cons_succ,List.filterMap_cons]
  cases entOf enc x with
  |none=>exact ih
  |some e=>exact(ih.cons e).trans (.swap _ _ _)
theorem set_self {G:MapRow κ} {k:Nat} {x:Option (Nat×List (κ×Value))} (h:G[k]? =some x):G.set k x=G:=by
 apply List.ext_getElem?
 intro i
 rw[List.getElem?_set]
 split
 ·rename_i e;subst e
  split
  ·exact h.symm
  rename_i hn;rw[List.getElem?_eq_none (by omega)] at h;cases h
 rfl
theorem Hp.bagPull {G:MapRow κ} {k b:Nat} {m:List (κ×Value)} {e:Ent} (h:Hp w0 M (e::(bag enc G++H)) w) (hk:G[k]? =some (some (b,m))):Hp w0 M (.obj b (mObj enc m)::e::(bag enc (G.set k none)++H)) w:=by
 have hl:k<G.length:=(List.getElem?_eq_some_iff.1 hk).1
 have hp:=bag_set (enc:=enc) b m hl
 rw[set_self hk] at hp
 exact h.perm (((hp.append_right H).cons e).trans (.swap _ _ _))
theorem Hp.bagPut {G:MapRow κ} {k b:Nat} {m:List (κ×Value)} {e:Ent} (h:Hp w0 M (.obj b (mObj enc m)::e::(bag enc (G.set k none)++H)) w) (hl:k<G.length):Hp w0 M (e::(bag enc (G.set k (some (b,m)))++H)) w:=by
 have hp:=bag_set (enc:=enc) b m hl
 exact h.perm ((List.Perm.swap _ _ _).trans ((hp.symm.append_right H).cons e))
theorem hd_set {G:MapRow κ} {k b:Nat} {m m':List (κ×Value)} (hk:G[k]? =some (some (b,m))): (G.set k (some (b,m'))).map hdOf=G.map hdOf:=by
 rw[List.map_set]
 have: (G.map hdOf)[k]? =some (.map (some b)):=by rw[List.getElem?_map,hk];rfl
 apply List.ext_getElem?
 intro i
 rw[List.getElem?_set]
 split
 ·rename_i e;subst e
  split
  ·exact this.symm
  rename_i hn;rw[List.getElem?_eq_none (by omega)] at this;cases this
 rfl
theorem Hp.bagKnown: ∀ {G:MapRow κ} {M:Mem},Hp w0 M (bag enc G++H) w→∃M',M.le M'∧Hp w0 M' H w∧∀b m,some (b,m)∈G→M' b=some (mObj enc m)
 |[],M,h=>⟨M,Mem.le_refl M,h,λ_ _ hm=>by cases hm⟩
 |none::G,M,h=>by
  obtain⟨M',h1,h2,h3⟩:=Hp.bagKnown (G:=G) (M:=M) h
  exact⟨M',h1,h2,λb m hm=>h3 b m (by simpa using hm)⟩
 |some (b,m)::G,M,h=>by
  have h':Hp w0 M (.obj b (mObj enc m)::(bag enc G++H)) w:=h
  obtain⟨k1,k2⟩:=h'.freeze
  obtain⟨M',h1,h2,h3⟩:=Hp.bagKnown (G:=G) k2
  refine⟨M',k1.trans h1,h2,λc x hm=>?_⟩
  rcases List.mem_cons.1 hm with e|hm
  ·cases e;exact h1 _ _ (Mem.add_get M b _)
  exact h3 c x hm
theorem gotCell {G:MapRow κ} {b k:Nat} {T:TypeId} (h:Hp w0 M H w) (i:Nat) (he:H[i]? =some (.obj b (.cells (G.map hdOf).toArray T (0,0)))) (hk:k<G.length):w.cell? ⟨b,k,none⟩=some (hdOf (G.getD k none)):=by
 rw[h.ownCell i he k]
 simp[List.getD,hk]
theorem Hp.bagNew {G:MapRow κ} {k b c:Nat} {T:TypeId} (h:Hp w0 M (.obj b (mObj enc [])::.obj c (.cells ((G.map hdOf).toArray.setIfInBounds k (.map (some b))) T (0,0))::(bag enc G++H)) w) (hk:k<G.length) (hn:G.getD k none=none):
 Hp w0 M (.obj c (.cells ((G.set k (some (b,[]))).map hdOf).toArray T (0,0))::(bag enc (G.set k (some (b,[])))++H)) w:=by
 have hs:G.set k none=G:=set_self (by simpa [List.getD,hk] using hn)
 have e: ((G.map hdOf).toArray.setIfInBounds k (.map (some b)))=((G.set k (some (b,[]))).map hdOf).toArray:=by
  rw[List.map_set];simp[hdOf]
 rw[←hs,hs,e] at h
 refine Hp.bagPut ?_ hk
 rw[hs];exact h
theorem getD_set_self {G:MapRow κ} {k:Nat} {x:Option (Nat×List (κ×Value))} (hk:k<G.length): (G.set k x).getD k none=x:=by simp[List.getD,hk]
theorem getD_set_ne {G:MapRow κ} {k j:Nat} {x:Option (Nat×List (κ×Value))} (h:j≠k): (G.set k x).getD j none=G.getD j none:=by
 simp only[List.getD_eq_getElem?_getD]
 rw[List.getElem?_set_ne (by omega)]
end
section
variable {κ:Type} {enc:κ→Value} {P:Program} {ops:Array Oper} {n:Nat} {Q:Exit→Act→World→Prop} {L:Fr} {a:Act} {w0 w:World} {M:Mem} {H:List Ent}
theorem eqMapNil {T kt et:TypeId} (ht:P.underlying T=some (.map kt et)) (g:Option (Nat×List (κ×Value))) (d:Nat) (w:World): (Op.equalIn (d+1) T (hdOf g) (.map none)).run P w=.ok g.isNone w:=by
 rcases g with _|⟨b,m⟩
 ·unfold Op.equalIn
  rw[Sem.run_bind,run_underlying ht];rfl
 unfold Op.equalIn
 rw[Sem.run_bind,run_underlying ht];rfl
theorem X_mapnil {ρ:Operand→Value} {o:Oper} {T t' kt et:TypeId} {x y:Operand} {g:Option (Nat×List (κ×Value))} (ho:o.op=.binOp .eql T x y t') (hx:ρ x=hdOf g) (hy:ρ y=.map none) (ht:P.underlying T=some (.map kt et)) (w:World):
 (execOp ρ o).run P w=.ok (.value (.bool g.isNone)) w:=by
 have h: ∀g':Option (Nat×List (κ×Value)),binOp .eql T (hdOf g') (.map none)=(do pure (.bool (←Op.equal T (hdOf g') (.map none)))):=λg'=>by rcases g' with _|⟨b,m⟩<;>rfl
 have h2: ∀g':Option (Nat×List (κ×Value)),eqGuard .eql T x y (hdOf g') (.map none)=pure ():=λg'=>by rcases g' with _|⟨b,m⟩<;>rfl
 have h3:=eqMapNil (P:=P) ht g 9999 w
 unfold execOp
 simp only[ho,hx,hy,h,h2,Sem.run_bind,Sem.run_pure,Result.andThen_ok]
 have h4: (Op.equal T (hdOf g) (.map none)).run P w=.ok g.isNone w:=h3
 rw[h4];rfl
theorem W_makeMap {o:Oper} {rest:List Oper} {d:Nat} {t:TypeId} (enc:κ→Value) (hf:Frm n L a dd) (hp:Hp w0 M H w) (hw:bv ops L o=some true) (hr:bX L o=true)
 (hd:o.dst=some d) (hdn:Nat.blt d n=true) (ho:o.op=.makeMap t none)
 (hk: ∀b w',Hp w0 M (.obj b (mObj enc [])::H) w'→∀a',Frm n ((d,.map (some b))::L) a' dd→wpList P ops Q rest a' w'):wpList P ops Q (o::rest) a w:=by
 have hx: (execOp (ev L) o).run P w=.ok (.value (.map (some w.heap.size))) (w.alloc (mObj enc [])):=by
  unfold execOp
  simp only[ho]
  rfl
 exact Af hf hw hr hd hdn hx (hk _ _ (hp.alloc _))
theorem zp [DecidableEq κ] {o:Oper} {rest:List Oper} {t kt et T:TypeId} {x ix y:Operand} {b c j:Nat} {G:MapRow κ} {m:List (κ×Value)} {k:κ} {v:Value} (hf:Frm n L a dd) (hp:Hp w0 M (.obj c (.cells (G.map hdOf).toArray T (0,0))::(bag enc G++H)) w) (hg:G.getD j none=some (b,m)) (hw:bv ops L o=some true) (hr:bX L o=true) (hd:o.dst=none)
 (ho:o.op=.mapUpdate t x ix y∨o.op=.insert t x ix y) (hx:ev L x=.map (some b)) (hk:ev L ix=enc k) (hv:ev L y=v) (ht:P.underlying t=some (.map kt et)) (K:KeyLaw P kt enc)
 (hq: ∀w',Hp w0 M (.obj c (.cells ((G.set j (some (b,updM m k v))).map hdOf).toArray T (0,0))::(bag enc (G.set j (some (b,updM m k v)))++H)) w'→∀a',Frm n L a' dd→wpList P ops Q rest a' w'):wpList P ops Q (o::rest) a w:=by
 have hj:j<G.length:=by
  rcases Nat.lt_or_ge j G.length with h|h
  ·exact h
  rw[List.getD_eq_getElem?_getD,List.getElem?_eq_none h] at hg;cases hg
 have hg':G[j]? =some (some (b,m)):=by
  rw[List.getD_eq_getElem?_getD,List.getElem?_eq_getElem hj] at hg
  rw[List.getElem?_eq_getElem hj];exact congrArg some hg
 refine zq hf (hp.bagPull hg') hw hr hd ho hx hk hv ht K λw' hp' a' ha=>hq w' ?_ a' ha
 rw[hd_set hg']
 exact hp'.bagPut hj
end
end Go.Vc
namespace Go.Vc
open Go Go.RowKit
variable {dd:List Deferred}
section
variable {P:Program} {w0 w:World} {M:Mem} {H:List Ent}
theorem eqSliceNil {T e:TypeId} (ht:P.underlying T=some (.slice e)) (A:Oa) (n c d:Nat) (w:World): (Op.equalIn (d+1) T (.slice A n c) (.slice none 0 0)).run P w=.ok A.isNone w:=by
 rcases A with _|b
 ·unfold Op.equalIn
  rw[Sem.run_bind,run_underlying ht];rfl
 unfold Op.equalIn
 rw[Sem.run_bind,run_underlying ht];rfl
theorem sR {ρ:Operand→Value} {o:Oper} {T t' e n c:TypeId} {x y:Operand} {A:Oa} (ho:o.op=.binOp .eql T x y t') (hx:ρ x=.slice A n c) (hy:ρ y=.slice none 0 0) (ht:P.underlying T=some (.slice e)) (w:World):
 (execOp ρ o).run P w=.ok (.value (.bool A.isNone)) w:=by
 have h3:=eqSliceNil (P:=P) ht A n c 9999 w
 have h:binOp .eql T (.slice A n c) (.slice none 0 0)=(do pure (.bool (←Op.equal T (.slice A n c) (.slice none 0 0)))):=rfl
 have h2:eqGuard .eql T x y (.slice A n c) (.slice none 0 0)=pure ():=rfl
 unfold execOp
 simp only[ho,hx,hy,h,h2,Sem.run_bind,Sem.run_pure,Result.andThen_ok]
 have h4: (Op.equal T (.slice A n c) (.slice none 0 0)).run P w=.ok A.isNone w:=h3
 rw[h4];rfl
end
end Go.Vc
namespace Go.Vc
open Go Go.RowKit
variable {dd:List Deferred}
def ar (p:Prop) [Decidable p] {α:Type} (x:Option α):Option α:=if p then x else none
theorem eZ {p:Prop} [Decidable p] {α:Type} {x:Option α} {r:α} (h:ar p x=some r):p∧x=some r:=by
 unfold ar at h
 split at h
 ·exact⟨‹_›,h⟩
 cases h
theorem di {p:Prop} [Decidable p] {α:Type} {x:Option α} (h:p):ar p x=x:=by unfold ar;rw[if_pos h]
theorem cnd_t {α:Type} {b:Bool} {x y r:α} (hb:b=true) (h: (bif b then x else y)=r):x=r:=by rw[hb] at h;exact h
theorem cnd_f {α:Type} {b:Bool} {x y r:α} (hb:b=false) (h: (bif b then x else y)=r):y=r:=by rw[hb] at h;exact h
inductive Lp (σ β:Type)
 |nx (s:σ)
 |br (b:β)
def av {σ β:Type} (step:σ→Option (Lp σ β)):Nat→σ→Option β|0,_=>none|n+1,s=>(step s).bind λr=>match r with|.nx s'=>av step n s'|.br b=>some b
theorem loop_step {σ β:Type} {step:σ→Option (Lp σ β)} {n:Nat} {s:σ} {b:β} (h:av step n s=some b): ∃m r,n=m+1∧step s=some r∧(match r with|.nx s'=>av step m s'|.br b=>some b)=some b:=by
 cases n with
 |zero=>cases h
 |succ m=>
  obtain⟨r,h1,h2⟩:=Option.bind_eq_some_iff.1 h
  exact⟨m,r,rfl,h1,h2⟩
def joinF {τ Λ:Type} (j:Lp τ Λ) (k:τ→Option Λ):Option Λ:=match j with|.nx x=>k x|.br l=>some l
def aq {α:Type} (xs:List α) (i:Int):Option α:=if 0≤i then xs[i.toNat]? else none
theorem cH {α:Type} {xs:List α} {i:Int} {x:α} (h:aq xs i=some x):0≤i∧i<xs.length∧xs[i.toNat]? =some x:=by
 unfold aq at h
 split at h
 ·have:=(List.getElem?_eq_some_iff.1 h).1
  exact⟨‹_›,by omega,h⟩
 cases h
theorem lY {α:Type} {xs:List α} {i:Int} {x:α} (h:aq xs i=some x):i<xs.length:=(cH h).2.1
theorem lZ {α:Type} {xs:List α} {i:Int} {x:α} (h:aq xs i=some x):0≤i:=(cH h).1
def inR (k:IntKind) (x:Int):Prop:=k.min≤x∧x≤k.max
instance (k:IntKind) (x:Int):Decidable (inR k x):=by unfold inR;exact inferInstance
theorem inR_mk {x:Int}:inR .i64 x↔ -9223372036854775808≤x∧x≤9223372036854775807:=by simp[inR,IntKind.min,IntKind.max,IntKind.signed,IntKind.bits]
section
variable {α:Type} {M M':Mem} {sz:Nat} {f:α→Dat} {A:Oa} {cap:Nat} {xs:List α}
def eL (sz:Nat) (f:α→Dat) (xs:List α):Dat:=.list sz (xs.map f)
def Sli (M:Mem) (sz:Nat) (f:α→Dat) (A:Oa) (cap:Nat) (xs:List α):Prop:=xs.length≤cap∧(A=none→cap=0)∧(xs=[]∨∃ad,A=some ad∧RepArr M sz (xs.map f) ad)
theorem Sli.mono (h:Sli M sz f A cap xs) (hM:M.le M'):Sli M' sz f A cap xs:=by
 obtain⟨h1,h2,h3⟩:=h
 refine⟨h1,h2,?_⟩
 rcases h3 with h3|⟨ad,h4,h5⟩
 ·exact .inl h3
 exact .inr ⟨ad,h4,RepArr.mono hM _ _ _ h5⟩
theorem Sli.nil:Sli M sz f none 0 []:=⟨Nat.le_refl _,λ_=>rfl,.inl rfl⟩
theorem Sli.rep (h:Sli M sz f A cap xs):Rep M (eL sz f xs) [.slice A xs.length cap]:=by
 obtain⟨h1,h2,h3⟩:=h
 refine⟨A,cap,by simp,by simpa using h1,h2,?_⟩
 rcases h3 with h3|⟨ad,h4,h5⟩
 ·exact .inl (by simp[h3])
 exact .inr ⟨ad,h4,h5⟩
theorem Rep.sli {cs:Lv} (h:Rep M (eL sz f xs) cs): ∃A cap,cs=[.slice A xs.length cap]∧Sli M sz f A cap xs:=by
 obtain⟨A,cap,h1,h2,h3,h4⟩:=h
 refine⟨A,cap,by simpa using h1,by simpa using h2,h3,?_⟩
 rcases h4 with h4|⟨ad,h5,h6⟩
 ·exact .inl (by simpa using h4)
 exact .inr ⟨ad,h5,h6⟩
theorem Sli.at_ (h:Sli M sz f A cap xs) {i:Int} {x:α} (hx:aq xs i=some x):
 ∃ad c,A=some ad∧c.length=sz∧Rep M (f x) c∧∀j v,c[j]? =some v→M.cell? ((ad.add (i.toNat*sz)).add j)=some v:=by
 obtain⟨_,_,h3⟩:=h
 obtain⟨h0,h1,h2⟩:=cH hx
 rcases h3 with h3|⟨ad,h4,h5⟩
 ·subst h3;simp at h2
 obtain⟨c,k1,k2,k3⟩:=RepArr.get i.toNat (f x) h5 (by simp[h2])
 exact⟨ad,c,h4,k1,k2,k3⟩
theorem RepArr.drop: ∀ (k:Nat) {ds:List Dat} {ad:Addr},RepArr M sz ds ad→RepArr M sz (ds.drop k) (ad.add (k*sz))
 |0,ds,ad,h=>by simpa [Addr.add] using h
 |k+1,[],ad,h=>by simp[RepArr]
 |k+1,d::ds,ad,h=>by
  have:=RepArr.drop (ds:=ds) k h.2
  rw[dg] at this
  rw[List.drop_succ_cons,show(k+1)*sz=sz+k*sz by rw[Nat.add_mul];omega]
  exact this
theorem RepArr.take: ∀ (k:Nat) {ds:List Dat} {ad:Addr},RepArr M sz ds ad→RepArr M sz (ds.take k) ad
 |0,ds,ad,h=>by simp[RepArr]
 |k+1,[],ad,h=>by simp[RepArr]
 |k+1,d::ds,ad,h=>⟨h.1,RepArr.take k h.2⟩
theorem Sli.cut (h:Sli M sz f A cap xs) {a b:Nat} (hab:a≤b) (hb:b≤xs.length):Sli M sz f (cutA A sz a cap) (cap-a) ((xs.take b).drop a):=by
 obtain⟨h1,h2,h3⟩:=h
 refine⟨by simp;omega,λe=>?_,?_⟩
 ·unfold cutA at e
  split at e
  ·omega
  cases A with
  |none=>have:=h2 rfl;omega
  |some ad=>simp at e
 rcases h3 with h3|⟨ad,h4,h5⟩
 ·exact .inl (by simp[h3])
 by_cases hac:cap=a
 ·exact .inl (by simp;omega)
 refine .inr ⟨ad.add (a*sz),by simp[cutA,hac,h4],?_⟩
 rw[List.map_drop,List.map_take]
 exact RepArr.drop a (RepArr.take b h5)
theorem Sli.len (h:Sli M sz f A cap xs):xs.length≤cap:=h.1
end
variable (n:Nat)
def Szd (d:Dat):Prop:=∀M cs,Rep M d cs→cs.length=n
theorem AR (k:IntKind) (n:Int):Szd 1 (.int k n):=λ_ _ h=>by rw[show _=_ from h];rfl
theorem szd_bool (b:Bool):Szd 1 (.bool b):=λ_ _ h=>by rw[show _=_ from h];rfl
theorem szd_str (l:Bs):Szd 1 (.str l):=λ_ _ h=>by rw[show _=_ from h];rfl
theorem szd_list (sz:Nat) (ds:List Dat):Szd 1 (.list sz ds):=λ_ _ h=>by obtain⟨A,cap,h1,_⟩:=h;rw[h1];rfl
theorem szd_nil:Szd 0 (.struct []):=λ_ _ h=>by rw[show _=[] from h];rfl
theorem szd_cons {a b:Nat} {d:Dat} {ds:List Dat} (h1:Szd a d) (h2:Szd b (.struct ds)):Szd (a+b) (.struct (d::ds)):=λM cs h=>by
 obtain⟨c1,c2,e,k1,k2⟩:=h
 rw[e,List.length_append,h1 M c1 k1,h2 M c2 k2]
section
variable {M M':Mem} {sz:Nat}
theorem au.append {M:Mem}: ∀ {ds es:List Dat} {c c':Lv},au M ds c→au M es c'→au M (ds++es) (c++c')
 |[],es,c,c',h,h'=>by rw[show c=[] from h];exact h'
 |d::ds,es,c,c',h,h'=>by
  obtain⟨c1,c2,e,k1,k2⟩:=h
  exact⟨c1,c2++c',by rw[e,List.append_assoc],k1,au.append k2 h'⟩
theorem au.more {α:Type} {f:α→Dat} {xs ys:List α} {c c':Lv} (h:au M (xs.map f) c) (h':au M (ys.map f) c'):au M ((xs++ys).map f) (c++c'):=by
 rw[List.map_append];exact h.append h'
theorem au.len: ∀ {ds:List Dat} {c:Lv},(∀d∈ds,Szd sz d)→au M ds c→c.length=ds.length*sz
 |[],c,_,h=>by rw[show c=[] from h];simp
 |d::ds,c,hs,h=>by
  obtain⟨c1,c2,e,k1,k2⟩:=h
  rw[e,List.length_append,hs d List.mem_cons_self M c1 k1,au.len (λd hd=>hs d (List.mem_cons_of_mem _ hd)) k2,List.length_cons,Nat.add_mul];omega
theorem au.arr: ∀ {ds:List Dat} {c:Lv} {ad:Addr},(∀d∈ds,Szd sz d)→au M ds c→(∀j u,c[j]? =some u→M.cell? (ad.add j)=some u)→RepArr M sz ds ad
 |[],_,_,_,_,_=>trivial
 |d::ds,c,ad,hs,h,hc=>by
  obtain⟨c1,c2,e,k1,k2⟩:=h
  have hl:=hs d List.mem_cons_self M c1 k1
  refine⟨⟨c1,hl,k1,λj v hv=>hc j v ?_⟩,au.arr (λd hd=>hs d (List.mem_cons_of_mem _ hd)) k2 λj v hv=>?_⟩
  ·rw[e,List.getElem?_append_left (List.getElem?_eq_some_iff.1 hv).1];exact hv
  rw[dg]
  refine hc _ v ?_
  rw[e,List.getElem?_append_right (by omega),show sz+j-c1.length=j by omega];exact hv
theorem au.get {M:Mem}: ∀ {ds:List Dat} {c:Lv} (i:Nat) {d:Dat},(∀d∈ds,Szd sz d)→au M ds c→ds[i]? =some d→∃e,e.length=sz∧Rep M d e∧∀j v,e[j]? =some v→c[i*sz+j]? =some v
 |[],_,i,d,_,_,h=>by simp at h
 |x::ds,c,0,d,hs,h,hd=>by
  simp only[List.getElem?_cons_zero,Option.some.injEq] at hd
  subst hd
  obtain⟨c1,c2,e,k1,k2⟩:=h
  refine⟨c1,hs _ List.mem_cons_self M c1 k1,k1,λj v hv=>?_⟩
  rw[e,Nat.zero_mul,Nat.zero_add,List.getElem?_append_left (List.getElem?_eq_some_iff.1 hv).1];exact hv
 |x::ds,c,i+1,d,hs,h,hd=>by
  simp only[List.getElem?_cons_succ] at hd
  obtain⟨c1,c2,e,k1,k2⟩:=h
  obtain⟨y,h1,h2,h3⟩:=au.get i (λd hd=>hs d (List.mem_cons_of_mem _ hd)) k2 hd
  refine⟨y,h1,h2,λj v hv=>?_⟩
  have hl:=hs x List.mem_cons_self M c1 k1
  rw[e,List.getElem?_append_right (by rw[Nat.add_mul];omega),show(i+1)*sz+j-c1.length=i*sz+j by rw[Nat.add_mul];omega]
  exact h3 j v hv
theorem RepArr.cells: ∀ {ds:List Dat} {ad:Addr},RepArr M sz ds ad→∃cs:Lv,cs.length=ds.length*sz∧au M ds cs∧∀j v,cs[j]? =some v→M.cell? (ad.add j)=some v
 |[],_,_=>⟨[],by simp,rfl,λj v h=>by simp at h⟩
 |d::ds,ad,h=>by
  obtain⟨⟨c,h1,h2,h3⟩,h4⟩:=h
  obtain⟨cs,k1,k2,k3⟩:=RepArr.cells h4
  refine⟨c++cs,by rw[List.length_append,k1,h1,List.length_cons,Nat.add_mul];omega,⟨c,cs,rfl,h2,k2⟩,λj v hv=>?_⟩
  by_cases hj:j<c.length
  ·rw[List.getElem?_append_left hj] at hv;exact h3 j v hv
  rw[List.getElem?_append_right (by omega)] at hv
  have:=k3 _ v hv
  rw[dg,show sz+ (j-c.length)=j by omega] at this
  exact this
mutual
theorem Rep.one {M:Mem}: ∀ (d:Dat) (cs:Lv),Rep M d cs→∀u∈cs,u.oneCell'=true
 |.int _ _,cs,h=>by intro u hu;rw[show cs=_ from h] at hu;simp at hu;subst hu;rfl
 |.bool _,cs,h=>by intro u hu;rw[show cs=_ from h] at hu;simp at hu;subst hu;rfl
 |.str _,cs,h=>by intro u hu;rw[show cs=_ from h] at hu;simp at hu;subst hu;rfl
 |.list _ _,cs,h=>by
  obtain⟨A,cap,e,_⟩:=h
  intro u hu;rw[e] at hu;simp at hu;subst hu;rfl
 |.struct ds,cs,h=>au.oneC ds cs h
theorem au.oneC {M:Mem}: ∀ (ds:List Dat) (cs:Lv),au M ds cs→∀u∈cs,u.oneCell'=true
 |[],cs,h=>by intro u hu;rw[show cs=[] from h] at hu;cases hu
 |d::ds,cs,h=>by
  obtain⟨c1,c2,e,k1,k2⟩:=h
  intro u hu
  rw[e] at hu
  rcases List.mem_append.1 hu with hu|hu
  ·exact Rep.one d c1 k1 u hu
  ·exact au.oneC ds c2 k2 u hu
end
end
section
variable {α:Type} {w0 w:World} {M M':Mem} {H:List Ent} {sz:Nat} {f:α→Dat} {xs:List α}
theorem Hp.rowSli {e:TypeId} {v:Value} {cs:Lv} (h:Hp w0 M (.row e sz v xs.length cs::H) w) (hf: ∀x,Szd sz (f x)) (hr:au M (xs.map f) cs):
 ∃A cap M',v=.slice A xs.length cap∧M.le M'∧Hp w0 M' H w∧Sli M' sz f A cap xs:=by
 have hs: ∀d∈xs.map f,Szd sz d:=λd hd=>by obtain⟨x,_,rfl⟩:=List.mem_map.1 hd;exact hf x
 obtain⟨M',h1,h2,h3⟩:=h.rowKnown
 rcases h3 with⟨rfl,hn,rfl⟩|⟨ad,cap,rfl,hcap,_,hc⟩
 ·have:xs=[]:=List.eq_nil_of_length_eq_zero hn
  subst this
  exact⟨none,0,M',rfl,h1,h2,Sli.nil⟩
 exact⟨some ad,cap,M',rfl,h1,h2,hcap,(λe=>by cases e),.inr ⟨ad,rfl,au.arr hs (au.mono h1 _ _ hr) hc⟩⟩
theorem Hp.rowAddr {e:TypeId} {n:Nat} {v:Value} {cs:Lv} (h:Hp w0 M H w) (i:Nat) (he:H[i]? =some (.row e sz v n cs)) (hn:0<n):
 ∃g cap,v=.slice (some ⟨g,0,none⟩) n cap∧n≤cap:=by
 obtain⟨h1,h2⟩:=h.rowAt i he
 rcases h2 with⟨rfl,hn'⟩|⟨g,cap,cur,rfl,hg,hh,hnc,hcm,hcs,htk⟩
 ·omega
 exact⟨g,cap,rfl,hnc⟩
theorem Hp.rowCell {e:TypeId} {n m cap g:Nat} {v:Value} {cs:Lv} (h:Hp w0 M H w) (i:Nat) (he:H[i]? =some (.row e sz v n cs)) (hv:v=.slice (some ⟨g,0,none⟩) m cap) (j:Nat) (u:Value) (hu:cs[j]? =some u):
 w.cell? ⟨g,j,none⟩=some u:=by
 obtain⟨h1,h2⟩:=h.rowAt i he
 rcases h2 with⟨h3,_⟩|⟨g',cap',cur,h3,hg,hh,hnc,hcm,hcs,htk⟩
 ·rw[h3] at hv;cases hv
 rw[h3] at hv;cases hv
 have hj:j<n*sz:=h1▸ (List.getElem?_eq_some_iff.1 hu).1
 rw[cell_of_row w _ _ cur e (0,0) hh,←Array.getElem?_toList]
 rw[←htk,List.getElem?_take_of_lt hj] at hu
 simpa using hu
theorem Hp.rowShape {e:TypeId} {n:Nat} {v:Value} {cs:Lv} (h:Hp w0 M H w) (i:Nat) (he:H[i]? =some (.row e sz v n cs)): ∃A cap,v=.slice A n cap∧n≤cap∧(A=none→cap=0):=by
 rcases(h.rowAt i he).2 with⟨rfl,rfl⟩|⟨g,cap,cur,rfl,hg,hh,hnc,_⟩
 ·exact⟨none,0,rfl,Nat.le_refl _,λ_=>rfl⟩
 exact⟨_,cap,rfl,hnc,λe=>by cases e⟩
theorem Hp.rowTrunc {e:TypeId} {n m cap g:Nat} {v:Value} {cs:Lv} (h:Hp w0 M (.row e sz v n cs::H) w) (hv:v=.slice (some ⟨g,0,none⟩) n cap) (hm:m≤n):
 Hp w0 M (.row e sz (.slice (some ⟨g,0,none⟩) m cap) m (cs.take (m*sz))::H) w:=by
 rcases h.rowObj with⟨h1,h2,h3,h4⟩|⟨g',cap',cur,h1,h2,h3,h4,h5,h6,h7⟩
 ·rw[h1] at hv;cases hv
 rw[h1] at hv;cases hv
 have hle:m*sz≤n*sz:=Nat.mul_le_mul_right _ hm
 refine h7.objRow (by omega) h3 h4 ?_ ?_
 ·rw[←h5,List.take_take,Nat.min_eq_left hle]
 rw[List.length_take,h6,Nat.min_eq_left hle]
theorem Hp.rowSet {e:TypeId} {n m cap g:Nat} {v:Value} {cs:Lv} (h:Hp w0 M (.row e sz v n cs::H) w) (hv:v=.slice (some ⟨g,0,none⟩) m cap) (j:Nat) (hj:j<cs.length) (u:Value):
 Hp w0 M (.row e sz v n (cs.set j u)::H) (w.setCell ⟨g,j,none⟩ u)∧w.frozen? ⟨g,j,none⟩=false∧∃x,w.cell? ⟨g,j,none⟩=some x:=by
 rcases h.rowObj with⟨h1,h2,h3,h4⟩|⟨g',cap',cur,h1,h2,h3,h4,h5,h6,h7⟩
 ·rw[h1] at hv;cases hv
 rw[h1] at hv;cases hv
 have hjl:j<n*sz:=h6▸hj
 have hsz:n*sz≤cur.size:=Nat.le_trans (Nat.mul_le_mul_right _ h2) h4.1
 refine⟨?_,h7.ownFrozen 0 rfl j (by omega),⟨_,(h7.ownCell 0 rfl j).trans (Array.getElem?_eq_getElem (by omega))⟩⟩
 subst h1
 refine(h7.setCell j u).objRow h2 h3 (by simpa using h4) ?_ (by simp[h6])
 rw[←h5,Array.toList_setIfInBounds,List.take_set]
end
section
variable {α:Type} {P:Program} {ops:Array Oper} {n:Nat} {Q:Exit→Act→World→Prop} {L:Fr} {a:Act} {w0 w:World} {M:Mem} {H:List Ent} {sz:Nat} {f:α→Dat}
theorem sg {o:Oper} {rest:List Oper} {d:Nat} {t e:TypeId} {x y:Operand} {z v:Value} {bytes c:Nat} {A:Oa} {xs ys:List α} {cs:Lv} (hf:Frm n L a dd) (hp:Hp w0 M (.row e sz v xs.length cs::H) w)
 (hcs:au M (xs.map f) cs) (hys:Sli M sz f A c ys)
 (hw:bv ops L o=some true) (hr:bX L o=true) (hd:o.dst=some d) (hdn:Nat.blt d n=true) (ho:o.op=.call {callee:=.builtin .append,args:=#[x,y],argTypes:=#[t,t]})
 (hx:ev L x=v) (hy:ev L y=.slice A ys.length c) (ht:P.underlying t=some (.slice e)) (hi:infoIs P e z sz bytes=true)
 (hb: (xs.length+ys.length)*bytes≤140737488355328) (h63:xs.length+ys.length≤9223372036854775807)
 (hk': ∀A cap cs' w',Hp w0 M (.row e sz (.slice A (xs++ys).length cap) (xs++ys).length cs'::H) w'→au M ((xs++ys).map f) cs'→∀a',Frm n ((d,.slice A (xs++ys).length cap)::L) a' dd→wpList P ops Q rest a' w'):wpList P ops Q (o::rest) a w:=by
 have hk: ∀v' cs' w',Hp w0 M (.row e sz v' (xs++ys).length cs'::H) w'→au M ((xs++ys).map f) cs'→∀a',Frm n ((d,v')::L) a' dd→wpList P ops Q rest a' w':=λv' cs' w' hp' hr' a' ha=>by
  obtain⟨A,cap,rfl,_⟩:=hp'.rowShape 0 rfl
  exact hk' A cap cs' w' hp' hr' a' ha
 obtain⟨h1,h2,h3⟩:=hys
 rcases A with _|ad
 ·have h0:=h2 rfl
  have hy0:ys=[]:=List.eq_nil_of_length_eq_zero (by omega)
  subst hy0;subst h0
  refine xN hf hp hw hr hd hdn ho hx hy ht hi λa' ha=>hk v cs w ?_ ?_ a' ha
  ·simpa using hp
  simpa using hcs
 have h5:RepArr M sz (ys.map f) ad:=by
  rcases h3 with h3|⟨ad',e',h5⟩
  ·subst h3;trivial
  cases e';exact h5
 obtain⟨news,k1,k2,k3⟩:=RepArr.cells h5
 refine Bb (z:=z) (news:=news) hf hp hw hr hd hdn ho hx hy ht hi (by simpa using k1) (λj u hu=>hp.cell (k3 j u hu)) (au.oneC _ _ k2) hb h63 λv' w' hp' a' ha=>hk v' (cs++news) w' ?_ (hcs.more k2) a' ha
 rw[List.length_append];exact hp'
end
end Go.Vc
namespace Go.Vc
open Go Go.RowKit
variable {dd:List Deferred}
theorem getI_getD {xs:Bs} {i:Int} {c:UInt8} (h:aq xs i=some c):xs.getD i.toNat 0=c:=by
 obtain⟨_,_,h3⟩:=cH h
 simp[List.getD,h3]
theorem sv {α:Type} {xs:List α} {i:Int} {x:α} (h:aq xs i=some x):0<xs.length:=by
 have:=lY h;have:=lZ h;omega
theorem vl {α β:Type} {f:α→β} {xs:List α} {i:Int} {x:α} (h:aq xs i=some x): (xs.map f)[i.toNat]? =some (f x):=by
 rw[List.getElem?_map,(cH h).2.2];rfl
theorem cD {k:IntKind} {x:Int} (h:inR k x):k.wrap x=x:=by
 cases k<;>simp[inR,IntKind.min,IntKind.max,IntKind.signed,IntKind.bits,IntKind.wrap] at* <;>omega
theorem jt {α:Type} {sz:Nat} {f:α→Dat} {xs:List α} (h: ∀x,Szd sz (f x)): ∀d∈xs.map f,Szd sz d:=λd hd=>by
 obtain⟨x,_,rfl⟩:=List.mem_map.1 hd;exact h x
def embB (c:UInt8):Dat:=.int .u8 (c.toNat:Int)
theorem szd_byte (c:UInt8):Szd 1 (embB c):=AR _ _
theorem row_at {w:World} {g k:Nat} {cs c:Lv} (h: ∀j u,cs[j]? =some u→w.cell? ⟨g,j,none⟩=some u) (hc: ∀j v,c[j]? =some v→cs[k+j]? =some v) (j:Nat) (v:Value) (hv:c[j]? =some v):
 w.cell? (((⟨g,0,none⟩:Addr).add k).add j)=some v:=by
 rw[dg,Addr.add_lit,Nat.zero_add];exact h _ _ (hc j v hv)
theorem au.set1 {M:Mem} {α:Type} {f:α→Dat} {x:α} {v:Value} (hf: ∀x,Szd 1 (f x)) (hv:Rep M (f x) [v]): ∀ {xs:List α} {cs:Lv} (i:Nat),au M (xs.map f) cs→au M ((xs.set i x).map f) (cs.set i v)
 |[],cs,i,h=>by rw[show cs=[] from h];rfl
 |y::xs,cs,i,h=>by
  obtain⟨c1,c2,e,k1,k2⟩:=h
  have hl:=hf y M c1 k1
  obtain⟨u,rfl⟩:=List.length_eq_one_iff.1 hl
  subst e
  cases i with
  |zero=>exact⟨[v],c2,rfl,hv,k2⟩
  |succ i=>exact⟨[u],c2.set i v,rfl,k1,au.set1 hf hv i k2⟩
theorem Sli.cutFrom {α:Type} {M:Mem} {sz:Nat} {f:α→Dat} {A:Oa} {cap:Nat} {xs:List α} (h:Sli M sz f A cap xs) {a:Nat} (ha:a≤xs.length):Sli M sz f (cutA A sz a cap) (cap-a) (xs.drop a):=by
 have:=h.cut ha (Nat.le_refl _)
 rwa [List.take_length] at this
section
variable {P:Program} {w:World} {ρ:Operand→Value} {o:Oper}
theorem X_rem {t t':Nat} {x y:Operand} {k:IntKind} {a b:Int} (ho:o.op=.binOp .rem t x y t') (hx:ρ x=.int k a) (hy:ρ y=.int k b) (h:b≠0): (execOp ρ o).run P w=.ok (.value (.int k (a.tmod b))) w:=by
 unfold execOp
 simp only[ho,hx,hy,eqGuard,binOp,Op.intDiv,Sem.run_bind]
 simp only[if_neg h]
 simp
theorem X_quo {t t':Nat} {x y:Operand} {k:IntKind} {a b:Int} (ho:o.op=.binOp .quo t x y t') (hx:ρ x=.int k a) (hy:ρ y=.int k b) (h:b≠0) (hr:inR k (a.tdiv b)): (execOp ρ o).run P w=.ok (.value (.int k (a.tdiv b))) w:=by
 unfold execOp
 simp only[ho,hx,hy,eqGuard,binOp,Op.intDiv,Sem.run_bind]
 simp only[if_neg h,cD hr]
 simp
theorem X_strgt {t t':Nat} {x y:Operand} {l m:Bs} (ho:o.op=.binOp .gtr t x y t') (hx:ρ x=S l) (hy:ρ y=S m): (execOp ρ o).run P w=.ok (.value (.bool (!(Op.bytesLess l m||l==m)))) w:=by
 unfold execOp
 simp only[ho,hx,hy,eqGuard,binOp,Op.stringOp,lH]
 rfl
theorem X_strle {t t':Nat} {x y:Operand} {l m:Bs} (ho:o.op=.binOp .leq t x y t') (hx:ρ x=S l) (hy:ρ y=S m): (execOp ρ o).run P w=.ok (.value (.bool (Op.bytesLess l m||l==m))) w:=by
 unfold execOp
 simp only[ho,hx,hy,eqGuard,binOp,Op.stringOp,lH]
 rfl
theorem X_strge {t t':Nat} {x y:Operand} {l m:Bs} (ho:o.op=.binOp .geq t x y t') (hx:ρ x=S l) (hy:ρ y=S m): (execOp ρ o).run P w=.ok (.value (.bool (!(Op.bytesLess l m)))) w:=by
 unfold execOp
 simp only[ho,hx,hy,eqGuard,binOp,Op.stringOp,lH]
 rfl
end
section
variable {α:Type} {P:Program} {ops:Array Oper} {n:Nat} {Q:Exit→Act→World→Prop} {L:Fr} {a:Act} {w0 w:World} {M:Mem} {H:List Ent} {sz:Nat} {f:α→Dat}
theorem W_rowstore {o:Oper} {rest:List Oper} {t e:TypeId} {x y:Operand} {it:Int} {m cap g:Nat} {v0 v:Value} {d:List α} {xv x0:α} {cs:Lv} (hf:Frm n L a dd) (hp:Hp w0 M (.row e 1 v0 d.length cs::H) w) (hv0:v0=.slice (some ⟨g,0,none⟩) m cap)
 (hw:bv ops L o=some true) (hr:bX L o=true) (hd:o.dst=none) (ho:o.op=.store t x y) (hx:ev L x=.pointer (some ((⟨g,0,none⟩:Addr).add (it.toNat*1)))) (hy:ev L y=v) (hv:Rep M (f xv) [v]) (hs:szIs P t 1=true) (hfs: ∀x,Szd 1 (f x)) (hg:aq d it=some x0)
 (hcs:au M (d.map f) cs) (hk: ∀w',Hp w0 M (.row e 1 v0 (d.set it.toNat xv).length (cs.set it.toNat v)::H) w'→au M ((d.set it.toNat xv).map f) (cs.set it.toNat v)→∀a',Frm n L a' dd→wpList P ops Q rest a' w'):wpList P ops Q (o::rest) a w:=by
 have hlen:cs.length=d.length:=by have:=au.len (jt hfs) hcs;simpa using this
 have hlt:it.toNat<cs.length:=by have:=lY hg;have:=lZ hg;omega
 obtain⟨h1,h2,u,h3⟩:=hp.rowSet hv0 it.toNat hlt v
 rw[Nat.mul_one,Addr.add_lit,Nat.zero_add] at hx
 refine xy hf hw hr hd (Bd ho hx hy (Rep.one _ _ hv v (by simp)) hs h3 h2) (hk _ ?_ (au.set1 hfs hv _ hcs))
 rw[List.length_set];exact h1
end
theorem fz_box {C:Addr→Option Value} {b:Nat} {cs:Array Value} (h: ∀j v,cs[j]? =some v→C ⟨b,j,none⟩=some v): ∀j v,cs.toList[j]? =some v→C ((⟨b,0,none⟩:Addr).add j)=some v:=λj v hv=>by
 rw[Addr.add_lit,Nat.zero_add];exact h j v (by simpa using hv)
def Flat (d:Dat):Prop:=∀M M' cs,Rep M d cs→Rep M' d cs
theorem flat_int (k:IntKind) (n:Int):Flat (.int k n):=λ_ _ _ h=>h
theorem au.flat {α:Type} {f:α→Dat} (hf: ∀x,Flat (f x)): ∀ {M M':Mem} (xs:List α) {cs:Lv},au M (xs.map f) cs→au M' (xs.map f) cs
 |_,_,[],_,h=>h
 |M,M',x::xs,cs,h=>by
  obtain⟨c1,c2,e,k1,k2⟩:=h
  exact⟨c1,c2,e,hf x M M' c1 k1,au.flat hf xs k2⟩
theorem Hp.lend {α:Type} {w0 w:World} {M:Mem} {H:List Ent} {sz:Nat} {f:α→Dat} {xs:List α} {e:TypeId} {v:Value} {cs:Lv} (h:Hp w0 M (.row e sz v xs.length cs::H) w) (hf: ∀x,Szd sz (f x)) (hr:au M (xs.map f) cs):
 ∃M1 A cap,M.le M1∧v=.slice A xs.length cap∧Hp w0 M1 H w∧Sli M1 sz f A cap xs∧
  ∀M' H' w',M1.le M'→Hp w0 M' H' w'→∃M2,M.le M2∧Hp w0 M2 (.row e sz v xs.length cs::H') w':=by
 have hs: ∀d∈xs.map f,Szd sz d:=jt hf
 rcases h.rowObj with⟨h1,h2,h3,h4⟩|⟨g,cap,cur,h1,h2,h3,h4,h5,h6,h7⟩
 ·have hx:xs=[]:=List.eq_nil_of_length_eq_zero h2
  subst hx;subst h1;subst h3
  exact⟨M,none,0,Mem.le_refl M,rfl,h4,Sli.nil,λM' H' w' hM hp=>⟨M',hM,hp.nilRow _ _⟩⟩
 obtain⟨k1,k2⟩:=h7.freeze
 have hfree:=h7.head_free
 have hge:=h7.start_le
 refine⟨_,some ⟨g,0,none⟩,cap,k1,h1,k2,⟨h2,(λe=>by cases e),.inr ⟨_,rfl,au.arr hs (au.mono k1 _ _ hr) λj u hu=>?_⟩⟩,λM' H' w' hM hp=>?_⟩
 ·rw[Addr.add_lit,mz,←Array.getElem?_toList,Nat.zero_add]
  have hj:j<xs.length*sz:=h6▸ (List.getElem?_eq_some_iff.1 hu).1
  rw[←h5,List.getElem?_take_of_lt hj] at hu
  exact hu
 refine⟨M'.del g,Mem.le_del (k1.trans hM) hfree,?_⟩
 have h8:=hp.thaw (hM _ _ (Mem.add_get M g _)) hge
 rw[h1]
 exact h8.objRow h2 h3 h4 h5 h6
theorem au.replicate {α:Type} {M:Mem} {f:α→Dat} {x:α} {z:Value} (h:Rep M (f x) [z]): ∀n,au M ((List.replicate n x).map f) (List.replicate n z)
 |0=>rfl
 |n+1=>by
  rw[List.replicate_succ,List.replicate_succ,List.map_cons]
  exact⟨[z],_,rfl,h,au.replicate h n⟩
theorem W_makeD {α:Type} {P:Program} {ops:Array Oper} {n:Nat} {Q:Exit→Act→World→Prop} {L:Fr} {a:Act} {w0 w:World} {M:Mem} {H:List Ent} {f:α→Dat} {o:Oper} {rest:List Oper} {d:Nat} {t e:TypeId} {l c:Operand} {z:Value} {bytes:Nat} {m:Int} {x:α} (hf:Frm n L a dd) (hp:Hp w0 M H w) (hx:Rep M (f x) [z]) (hw:bv ops L o=some true) (hr:bX L o=true)
 (hd:o.dst=some d) (hdn:Nat.blt d n=true) (ho:o.op=.makeSlice t l c) (hl:ev L l=.int .i64 m) (hc:ev L c=.int .i64 m) (ht:P.underlying t=some (.slice e)) (hinfo: (P.info? e).map (λi=>(i.zero,i.size,i.bytes))=some (some z,1,bytes)) (hz:z.cells=#[z])
 (hb:0≤m∧m*bytes≤140737488355328∧m≤140737488355328)
 (hk': ∀A cap cs w',Hp w0 M (.row e 1 (.slice A (List.replicate m.toNat x).length cap) (List.replicate m.toNat x).length cs::H) w'→au M ((List.replicate m.toNat x).map f) cs→∀a',Frm n ((d,.slice A (List.replicate m.toNat x).length cap)::L) a' dd→wpList P ops Q rest a' w'):wpList P ops Q (o::rest) a w:=by
 have hk: ∀v cs w',Hp w0 M (.row e 1 v (List.replicate m.toNat x).length cs::H) w'→au M ((List.replicate m.toNat x).map f) cs→∀a',Frm n ((d,v)::L) a' dd→wpList P ops Q rest a' w':=λv cs w' hp' hr' a' ha=>by
  obtain⟨A,cap,rfl,_⟩:=hp'.rowShape 0 rfl
  exact hk' A cap cs w' hp' hr' a' ha
 obtain⟨k,rfl⟩:=Int.eq_ofNat_of_zero_le hb.1
 have h1:bytes*k≤140737488355328:=by
  have h:=hb.2.1
  have e: ((k*bytes:Nat):Int)=(k:Int)* (bytes:Int):=Int.natCast_mul k bytes
  rw[Nat.mul_comm]
  omega
 have h2:k≤140737488355328:=by have:=hb.2.2;omega
 refine W_make hf hp hw hr hd hdn ho hl hc ht hinfo hz (by omega) (by omega) λb w' hp' a' ha=>?_
 refine hk _ (List.replicate k z) w' ?_ (au.replicate hx _) a' ha
 rw[List.length_replicate]
 exact hp'.objRow (Nat.le_refl _) (by unfold maxLen;omega) (yM (by unfold maxLen;omega) (by rw[List.size_toArray,List.length_replicate,Nat.mul_one])) (by rw[Nat.mul_one];exact List.take_of_length_le (by rw[List.length_replicate];exact Nat.le_refl _)) (by rw[List.length_replicate,Nat.mul_one])
theorem Hp.rowVal {w0 w:World} {M:Mem} {H:List Ent} {e:TypeId} {sz n:Nat} {v v':Value} {cs:Lv} (h:Hp w0 M (.row e sz v n cs::H) w) (he:v=v'):Hp w0 M (.row e sz v' n cs::H) w:=he▸h
theorem au.bytes {M:Mem}: ∀l:Bs,au M (l.map embB) (nh l)
 |[]=>rfl
 |c::l=>⟨[.int .u8 c.toNat],nh l,rfl,rfl,au.bytes l⟩
theorem au.bytes_eq {M:Mem}: ∀ {l:Bs} {cs:Lv},au M (l.map embB) cs→cs=nh l
 |[],cs,h=>h
 |c::l,cs,h=>by
  obtain⟨c1,c2,e,k1,k2⟩:=h
  rw[e,show c1=[_] from k1,au.bytes_eq k2];rfl
end Go.Vc
namespace Go.Vc
open Go Go.RowKit
variable {dd:List Deferred}
section
variable {P:Program} {Q:Exit→Act→World→Prop} {a:Act} {w:World}
end
def bAnd (k:IntKind) (x y:Int):Int:=k.wrap ((BitVec.ofInt k.bits x&&& BitVec.ofInt k.bits y).toNat)
theorem wG (k:IntKind) (h:k=.i64∨k=.i32∨k=.u8∨k=.u32∨k=.u64∨k=.u16∨k=.i16) (c:UInt8):k.wrap ((c.toNat:Nat):Int)=((c.toNat:Nat):Int):=by
 have:=c.toNat_lt
 rcases h with rfl|rfl|rfl|rfl|rfl|rfl|rfl<;>simp[IntKind.wrap,IntKind.bits,IntKind.signed]<;>omega
section
variable {κ V:Type} [DecidableEq κ]
def eS:List (κ×V)→κ→Option V|[],_=>none|p::r,k=>if p.1=k then some p.2 else eS r k
def jv:List (κ×V)→κ→V→List (κ×V)|[],k,v=>[(k,v)]|p::r,k,v=>if p.1=k then(k,v)::r else p::jv r k v
theorem ws {m:List (κ×V)} {k j:κ} {v:V}:eS (jv m k v) j=if k=j then some v else eS m j:=by
 induction m with
 |nil=>simp[jv,eS]
 |cons p r ih=>
  unfold jv
  by_cases h:p.1=k
  ·rw[if_pos h]
   simp only[eS]
   by_cases hk:k=j
   ·simp[hk]
   have: ¬p.1=j:=λe=>hk (h▸e)
   simp[hk,this]
  rw[if_neg h]
  simp only[eS,ih]
  by_cases hp:p.1=j
  ·have: ¬k=j:=λe=>h (hp.trans e.symm)
   simp[hp,this]
  simp[hp]
theorem xY {ev:V→Value} {k:κ}: ∀ (m:List (κ×V)) (j:Nat),(lkAt k (m.map λp=>(p.1,ev p.2)) j).map (·.2)=(eS m k).map ev
 |[],j=>rfl
 |p::r,j=>by
  simp only[List.map_cons,lkAt,eS]
  by_cases h:p.1=k
  ·simp[h]
  simp only[h,if_false];exact xY r (j+1)
theorem BA {k:κ}: ∀ (m:List (κ×Value)) (j:Nat),lkAt k m (j+1)=(lkAt k m j).map λq=>(q.1+1,q.2)
 |[],j=>rfl
 |p::r,j=>by
  simp only[lkAt]
  by_cases h:p.1=k
  ·simp[h]
  simp only[h,if_false];exact BA r (j+1)
theorem updM_map {ev:V→Value} {k:κ} {v:V}: ∀ (m:List (κ×V)),updM (m.map λp=>(p.1,ev p.2)) k (ev v)=(jv m k v).map λp=>(p.1,ev p.2)
 |[]=>rfl
 |p::r=>by
  have ih:=updM_map (ev:=ev) (k:=k) (v:=v) r
  unfold updM at ih ⊢
  simp only[List.map_cons,lkAt,jv]
  by_cases h:p.1=k
  ·simp[h]
  simp only[h,if_false,List.map_cons]
  rw[BA]
  cases hl:lkAt k (r.map λp=>(p.1,ev p.2)) 0 with
  |none=>rw[hl] at ih;simp only[Option.map_none] at ih ⊢;rw[←ih];rfl
  |some q=>rw[hl] at ih;simp only[Option.map_some,List.set_cons_succ] at ih ⊢;rw[←ih]
def kl (ek:κ→Value) (ev:V→Value) (m:List (κ×V)):Obj:=mObj ek (m.map λp=>(p.1,ev p.2))
variable {P:Program} {ops:Array Oper} {n:Nat} {Q:Exit→Act→World→Prop} {L:Fr} {a:Act} {w0 w:World} {M:Mem} {H:List Ent} {ek:κ→Value} {ev:V→Value}
theorem X_lookup1 {o:Oper} {ρ:Operand→Value} {t kt et:TypeId} {x ix:Operand} {b:Nat} {m:List (κ×V)} {k:κ} {z:V} (ho:o.op=.lookup t x ix false) (hx:ρ x=.map (some b)) (hk:ρ ix=ek k) (ht:P.underlying t=some (.map kt et)) (K:KeyLaw P kt ek)
 (hz: (P.info? et).bind (·.zero)=some (ev z)) (hb:w.heap[b]? =some (kl ek ev m)): (execOp ρ o).run P w=.ok (.value (ev ((eS m k).getD z))) w:=by
 have:=X_lookup (ok:=false) ho hx hk ht K hz hb
 rw[this,xY]
 cases eS m k<;>rfl
theorem X_lookup2 {o:Oper} {ρ:Operand→Value} {t kt et:TypeId} {x ix:Operand} {b:Nat} {m:List (κ×V)} {k:κ} {z:V} (ho:o.op=.lookup t x ix true) (hx:ρ x=.map (some b)) (hk:ρ ix=ek k) (ht:P.underlying t=some (.map kt et)) (K:KeyLaw P kt ek)
 (hz: (P.info? et).bind (·.zero)=some (ev z)) (hb:w.heap[b]? =some (kl ek ev m)): (execOp ρ o).run P w=.ok (.value (.tuple #[ev ((eS m k).getD z),.bool (eS m k).isSome])) w:=by
 have:=X_lookup (ok:=true) ho hx hk ht K hz hb
 have e:=xY (ev:=ev) (k:=k) m 0
 rw[this,e]
 have h2: (lkAt k (m.map λp=>(p.1,ev p.2)) 0).isSome=(eS m k).isSome:=by
  cases h:lkAt k (m.map λp=>(p.1,ev p.2)) 0<;>cases h':eS m k<;>simp[h,h'] at e ⊢
 rw[h2]
 cases eS m k<;>rfl
theorem Bc {κ V:Type} {o:Oper} {rest:List Oper} {d:Nat} {t:TypeId} (ek:κ→Value) (ev:V→Value) (hf:Frm n L a dd) (hp:Hp w0 M H w) (hw:bv ops L o=some true) (hr:bX L o=true)
 (hd:o.dst=some d) (hdn:Nat.blt d n=true) (ho:o.op=.makeMap t none)
 (hk: ∀b w',Hp w0 M (.obj b (kl ek ev [])::H) w'→∀a',Frm n ((d,.map (some b))::L) a' dd→wpList P ops Q rest a' w'):wpList P ops Q (o::rest) a w:=
 W_makeMap ek hf hp hw hr hd hdn ho hk
theorem W_mapput {o:Oper} {rest:List Oper} {t kt et:TypeId} {x ix y:Operand} {b:Nat} {m:List (κ×V)} {k:κ} {v:V} (hf:Frm n L a dd) (hp:Hp w0 M (.obj b (kl ek ev m)::H) w) (hw:bv ops L o=some true) (hr:bX L o=true) (hd:o.dst=none)
 (ho:o.op=.mapUpdate t x ix y∨o.op=.insert t x ix y) (hx:Vc.ev L x=.map (some b)) (hk:Vc.ev L ix=ek k) (hv:Vc.ev L y=ev v) (ht:P.underlying t=some (.map kt et)) (K:KeyLaw P kt ek)
 (hq: ∀w',Hp w0 M (.obj b (kl ek ev (jv m k v))::H) w'→∀a',Frm n L a' dd→wpList P ops Q rest a' w'):wpList P ops Q (o::rest) a w:=by
 refine zq hf hp hw hr hd ho hx hk hv ht K λw' hp' a' ha=>hq w' ?_ a' ha
 rw[updM_map] at hp';exact hp'
end
end Go.Vc
namespace Go.Vc
open Go Go.RowKit
variable {dd:List Deferred}
section
variable {w0 w:World} {M:Mem} {H:List Ent} {b:Nat} {T:TypeId} {fr:Nat×Nat} {sz:Nat}
theorem Hp.rowFront {e:TypeId} {n m:Nat} {A:Oa} {cap:Nat} {v:Value} {cs:Lv} (h:Hp w0 M (.row e sz v n cs::H) w) (hv:v=.slice A n cap) (hm:m≤n):
 Hp w0 M (.row e sz (.slice (cutA A sz 0 cap) m cap) m (cs.take (m*sz))::H) w:=by
 have hown:=h.own _ List.mem_cons_self
 rcases hown.2 with⟨h1,h2⟩|⟨g,cap',cur,h1,_⟩
 ·rw[h1] at hv;cases hv
  have:m=0:=by omega
  subst this
  have hcs:cs=[]:=List.eq_nil_of_length_eq_zero (by rw[hown.1,h2];simp)
  subst hcs
  simpa [cutA] using h.drop.nilRow e sz
 rw[h1] at hv;cases hv
 have:cutA (some ⟨g,0,none⟩) sz 0 cap=some ⟨g,0,none⟩:=by
  unfold cutA;split
  ·rfl
  simp[Addr.add]
 rw[this]
 exact h.rowTrunc h1 hm
theorem Hp.rowFull {e:TypeId} {n m:Nat} {A:Oa} {cap:Nat} {v:Value} {cs:Lv} (h:Hp w0 M (.row e sz v n cs::H) w) (hv:v=.slice A n cap) (hm:m≤n):
 Hp w0 M (.row e sz (.slice (cutA A sz 0 m) m m) m (cs.take (m*sz))::H) w:=by
 rcases h.rowObj with⟨h1,h2,h3,h4⟩|⟨g,cap',cur,h1,h2,h3,h4,h5,h6,h7⟩
 ·rw[h1] at hv;cases hv
  have:m=0:=by omega
  subst this
  subst h3
  simpa [cutA] using h4.nilRow e sz
 rw[h1] at hv;cases hv
 have hA:cutA (some ⟨g,0,none⟩) sz 0 m=some ⟨g,0,none⟩:=by
  unfold cutA;split
  ·rfl
  simp[Addr.add]
 rw[hA]
 have hle:m*sz≤n*sz:=Nat.mul_le_mul_right _ hm
 refine h7.objRow (Nat.le_refl _) (by omega) ⟨Nat.le_trans (Nat.mul_le_mul_right _ (by omega:m≤cap)) h4.1,h4.2⟩ ?_ ?_
 ·rw[←h5,List.take_take,Nat.min_eq_left hle]
 rw[List.length_take,h6,Nat.min_eq_left hle]
theorem Hp.rowPart {e:TypeId} {n lo hi:Nat} {A:Oa} {cap:Nat} {v:Value} {cs:Lv} (h:Hp w0 M H w) (i:Nat) (he:H[i]? =some (.row e sz v n cs)) (hv:v=.slice A n cap) (h1:lo≤hi) (h2:hi≤n):
 (cutA A sz lo cap=none∧hi-lo=0∧cap-lo=0)∨∃ad,cutA A sz lo cap=some ad∧∀j u,((cs.take (hi*sz)).drop (lo*sz))[j]? =some u→w.cell? (ad.add j)=some u:=by
 have hown:=h.rowAt i he
 rcases hown.2 with⟨h3,h4⟩|⟨g,cap',cur,h3,hg,hh,hnc,hcm,hcs,htk⟩
 ·rw[h3] at hv;cases hv
  exact .inl ⟨by unfold cutA;split<;>rfl,by omega,by omega⟩
 have hvv:v=.slice (some ⟨g,0,none⟩) n cap':=h3
 rw[h3] at hv;cases hv
 by_cases hc:cap=lo
 ·refine .inr ⟨⟨g,0,none⟩,by simp[cutA,hc],λj u hu=>?_⟩
  have:hi=lo:=by omega
  subst this
  simp at hu
 refine .inr ⟨(⟨g,0,none⟩:Addr).add (lo*sz),by simp[cutA,hc],λj u hu=>?_⟩
 rw[dg,Addr.add_lit,Nat.zero_add]
 refine h.rowCell i he hvv _ u ?_
 rw[List.getElem?_drop] at hu
 have hj:lo*sz+j<hi*sz:=by
  have:=(List.getElem?_eq_some_iff.1 hu).1
  rw[List.length_take] at this;omega
 rwa [List.getElem?_take_of_lt hj] at hu
end
section
variable {α:Type} {P:Program} {ops:Array Oper} {n:Nat} {Q:Exit→Act→World→Prop} {L:Fr} {a:Act} {w0 w:World} {M:Mem} {H:List Ent} {sz:Nat} {f:α→Dat}
theorem au.takeD {M:Mem}: ∀ {ds:List Dat} {c:Lv} (i:Nat),(∀d∈ds,Szd sz d)→au M ds c→au M (ds.take i) (c.take (i*sz))
 |[],c,i,_,h=>by rw[show c=[] from h];simp[au]
 |d::ds,c,0,_,_=>by simp[au]
 |d::ds,c,i+1,hs,h=>by
  obtain⟨c1,c2,e,k1,k2⟩:=h
  have hl:=hs d List.mem_cons_self M c1 k1
  refine⟨c1,c2.take (i*sz),?_,k1,au.takeD i (λd hd=>hs d (List.mem_cons_of_mem _ hd)) k2⟩
  rw[e,List.take_append,hl,show(i+1)*sz-sz=i*sz by rw[Nat.add_mul];omega,List.take_of_length_le (by rw[hl,Nat.add_mul];omega)]
theorem au.dropD {M:Mem}: ∀ {ds:List Dat} {c:Lv} (i:Nat),(∀d∈ds,Szd sz d)→au M ds c→au M (ds.drop i) (c.drop (i*sz))
 |[],c,i,_,h=>by rw[show c=[] from h];simp[au]
 |d::ds,c,0,_,h=>by simpa using h
 |d::ds,c,i+1,hs,h=>by
  obtain⟨c1,c2,e,k1,k2⟩:=h
  have hl:=hs d List.mem_cons_self M c1 k1
  have:=au.dropD i (λd hd=>hs d (List.mem_cons_of_mem _ hd)) k2
  have e0:c1.drop ((i+1)*sz)=[]:=List.drop_eq_nil_of_le (by rw[hl,Nat.add_mul];omega)
  rw[List.drop_succ_cons,e,List.drop_append,e0,List.nil_append,hl,show(i+1)*sz-sz=i*sz by rw[Nat.add_mul];omega]
  exact this
theorem W_appendP {o:Oper} {rest:List Oper} {d:Nat} {t e:TypeId} {x y:Operand} {z v:Value} {bytes lo hi:Nat} {A:Oa} {cap:Nat} {v2:Value} {xs ys:List α} {cs cs2:Lv} (hf:Frm n L a dd) (hp:Hp w0 M (.row e sz v xs.length cs::H) w) (hs: ∀x,Szd sz (f x))
 (hcs:au M (xs.map f) cs) (hys:au M (ys.map f) cs2) (i:Nat) (he: (.row e sz v xs.length cs::H)[i]? =some (.row e sz v2 ys.length cs2)) (hv2:v2=.slice A ys.length cap) (h1:lo≤hi) (h2:hi≤ys.length)
 (hw:bv ops L o=some true) (hr:bX L o=true) (hd:o.dst=some d) (hdn:Nat.blt d n=true) (ho:o.op=.call {callee:=.builtin .append,args:=#[x,y],argTypes:=#[t,t]})
 (hx:ev L x=v) (hy:ev L y=.slice (cutA A sz lo cap) (hi-lo) (cap-lo)) (ht:P.underlying t=some (.slice e)) (hi':infoIs P e z sz bytes=true)
 (hb: (xs.length+ (hi-lo))*bytes≤140737488355328) (h63:xs.length+ (hi-lo)≤9223372036854775807)
 (hk': ∀A cap cs' w',Hp w0 M (.row e sz (.slice A (xs++(ys.take hi).drop lo).length cap) (xs++(ys.take hi).drop lo).length cs'::H) w'→au M ((xs++(ys.take hi).drop lo).map f) cs'→∀a',Frm n ((d,.slice A (xs++(ys.take hi).drop lo).length cap)::L) a' dd→wpList P ops Q rest a' w'):wpList P ops Q (o::rest) a w:=by
 have hk: ∀v' cs' w',Hp w0 M (.row e sz v' (xs++(ys.take hi).drop lo).length cs'::H) w'→au M ((xs++(ys.take hi).drop lo).map f) cs'→∀a',Frm n ((d,v')::L) a' dd→wpList P ops Q rest a' w':=λv' cs' w' hp' hr' a' ha=>by
  obtain⟨A,cap,rfl,_⟩:=hp'.rowShape 0 rfl
  exact hk' A cap cs' w' hp' hr' a' ha
 have hseg:au M (((ys.take hi).drop lo).map f) ((cs2.take (hi*sz)).drop (lo*sz)):=by
  rw[List.map_drop,List.map_take]
  exact au.dropD lo (λd hd=>jt hs d (List.mem_of_mem_take hd)) (au.takeD hi (jt hs) hys)
 have hlen: ((ys.take hi).drop lo).length=hi-lo:=by rw[List.length_drop,List.length_take,Nat.min_eq_left h2]
 rcases hp.rowPart i he hv2 h1 h2 with⟨e1,e2,e3⟩|⟨ad,e1,e2⟩
 ·rw[e1,e2,e3] at hy
  have hy0: (ys.take hi).drop lo=[]:=List.eq_nil_of_length_eq_zero (by omega)
  refine xN hf hp hw hr hd hdn ho hx hy ht hi' λa' ha=>hk v cs w ?_ ?_ a' ha
  ·rw[hy0,List.append_nil];exact hp
  rw[hy0,List.append_nil];exact hcs
 rw[e1] at hy
 have hl: ((cs2.take (hi*sz)).drop (lo*sz)).length=(hi-lo)*sz:=by
  have:=au.len (jt hs) hseg
  rw[this,List.length_map,hlen]
 refine Bb (z:=z) hf hp hw hr hd hdn ho hx hy ht hi' hl e2 (au.oneC _ _ hseg) hb h63 λv' w' hp' a' ha=>hk v' _ w' ?_ (hcs.more hseg) a' ha
 rw[List.length_append,hlen];exact hp'
end
end Go.Vc
namespace Go.Vc
open Go Go.RowKit
variable {dd:List Deferred}
section
variable {P:Program} {ops:Array Oper} {n:Nat} {K:Act→Prop} {L:Fr} {a:Act} {w0 w:World} {M:Mem} {H:List Ent}
end
end Go.Vc
end
section
namespace Go.Vc
open Go
mutual def Vld:Dat→Prop|.int k n=>(Lit.int k n).wf=true|.bool _=>True|.str l=>l.length≤maxLen|.list _ ds=>ds.length≤maxLen∧VldAll ds|.struct ds=>VldAll ds def VldAll:List Dat→Prop|[]=>True|d::ds=>Vld d∧VldAll ds end
theorem VldAll.mk: ∀ {ds:List Dat},(∀d∈ds,Vld d)→VldAll ds
 |[],_=>trivial
 |d::_,h=>⟨h d List.mem_cons_self,VldAll.mk λx hx=>h x (List.mem_cons_of_mem _ hx)⟩
def Opn {H:Type} (enc:TypeId×Value→H) (P:Program) (w:World) (t:TypeId) {α:Type} (f:α→Dat) (n:Nat):Prop:=∀m,m≤n→∀cs x,DataW.trod enc P w 0 (λ_=>true) true m t cs=some x→∃a,Rep (Mem.of w) (f a) cs∧Vld (f a)
section
variable {H:Type} {enc:TypeId×Value→H} {P:Program} {w:World} {t:TypeId} {α:Type} {f:α→Dat} {n:Nat}
theorem Opn.zero:Opn enc P w t f 0:=λm hm cs x h=>by
 obtain rfl:m=0:=by omega
 simp[DataW.trod] at h
theorem Opn.le {n':Nat} (h:Opn enc P w t f n) (hn:n'≤n):Opn enc P w t f n':=λm hm=>h m (Nat.le_trans hm hn)
theorem cells_of {a:Addr} {k:Nat} {cs:Lv} (h:w.cells? 0 a k=some cs):cs.length=k∧∀j v,cs[j]? =some v→(Mem.of w).cell? (a.add j)=some v:=by
 obtain⟨_,h2,h3⟩:=World.cells?_some h
 refine⟨h2,λj v hv=>?_⟩
 have hj:j<k:=h2▸ (List.getElem?_eq_some_iff.1 hv).1
 exact(h3 j hj).trans hv
theorem opn_slice {e:TypeId} {sz:Nat} (ht:P.underlying t=some (.slice e)) (hsz:P.cellsOf e=sz) (h:Opn enc P w e f n):Opn enc P w t (eL sz f) (n+1):=λm hm cs x hx=>by
 rcases DataW.trod_slice ht hx with⟨rfl,_⟩|⟨ad,len,cap,elems,rest,n',rfl,rfl,_,_,hlc,hcm,hel,hat,_⟩
 ·exact⟨[],Sli.rep (Sli.nil (sz:=sz) (f:=f)),by simp[Vld,eL,VldAll]⟩
 have key: ∀k,k≤len→∃xs:List α,xs.length=k∧RepArr (Mem.of w) sz (xs.map f) ad∧∀x∈xs,Vld (f x):=by
  intro k
  induction k with
  |zero=>intro _;exact⟨[],rfl,trivial,λx hx=>by cases hx⟩
  |succ k ih=>
   intro hk
   obtain⟨xs,h1,h2,h3⟩:=ih (by omega)
   have hk':k<elems.length:=by omega
   have:=hat k (by omega)
   rw[List.getElem?_eq_getElem hk'] at this
   obtain⟨cs',g1,g2⟩:=Option.bind_eq_some_iff.1 this
   obtain⟨a,g3,g4⟩:=h n' (by omega) cs' _ g2
   obtain⟨g5,g6⟩:=cells_of g1
   rw[hsz] at g5 g6
   refine⟨xs++[a],by simp[h1],?_,λx hx=>?_⟩
   ·rw[List.map_append]
    have app: ∀ (ds:List Dat) (ad:Addr),RepArr (Mem.of w) sz ds ad→RepArr (Mem.of w) sz [f a] (ad.add (ds.length*sz))→RepArr (Mem.of w) sz (ds++[f a]) ad:=by
     intro ds
     induction ds with
     |nil=>intro ad _ hh;simpa [Addr.add] using hh
     |cons d ds ih=>
      intro ad h1 h2
      refine⟨h1.1,ih _ h1.2 ?_⟩
      rw[dg]
      rw[List.length_cons,show(ds.length+1)*sz=sz+ds.length*sz by rw[Nat.add_mul];omega] at h2
      exact h2
    refine app _ _ h2 ⟨⟨cs',g5,g3,?_⟩,trivial⟩
    rw[List.length_map,h1]
    exact g6
   rcases List.mem_append.1 hx with hx|hx
   ·exact h3 x hx
   simp at hx;subst hx;exact g4
 obtain⟨xs,h1,h2,h3⟩:=key len (Nat.le_refl _)
 subst h1
 refine⟨xs,Sli.rep ⟨hlc,λe=>(by cases e),.inr ⟨ad,rfl,h2⟩⟩,?_,VldAll.mk λd hd=>?_⟩
 ·rw[List.length_map];omega
 obtain⟨x,hx,rfl⟩:=List.mem_map.1 hd
 exact h3 x hx
theorem au.cut {M:Mem} {d:Dat} {ds:List Dat} {cs:Lv} {k:Nat} (h1:Rep M d (cs.take k)) (h2:au M ds (cs.drop k)):au M (d::ds) cs:=⟨cs.take k,cs.drop k,(List.take_append_drop k cs).symm,h1,h2⟩
theorem Opn.arg (h: ∀n,Opn enc P w t f n) {v:Value} {d:DataW H} {ps:List MemPlace} (ht:DataW.Trod enc P w 0 (λ_=>true) true t v d ps): ∃a,Rep (Mem.of w) (f a) v.cells.toList∧Vld (f a):=by
 obtain⟨fuel,hf⟩:=ht
 exact h fuel fuel (Nat.le_refl _) _ _ hf
theorem Opn.slice_arg {e:TypeId} {sz:Nat} (hu:P.underlying t=some (.slice e)) (hsz:P.cellsOf e=sz) (h: ∀n,Opn enc P w e f n) {v:Value} {d:DataW H} {ps:List MemPlace} (hv: ∃A len cap,v=.slice A len cap) (ht:DataW.Trod enc P w 0 (λ_=>true) true t v d ps):
 ∃A cap xs,v=.slice A xs.length cap∧Sli (Mem.of w) sz f A cap xs∧Vld (eL sz f xs):=by
 obtain⟨A,len,cap,rfl⟩:=hv
 obtain⟨xs,h1,h2⟩:=Opn.arg (f:=eL sz f) (λn=>(opn_slice hu hsz (h n)).le (Nat.le_succ n)) ht
 obtain⟨A',cap',e,hs⟩:=Rep.sli h1
 simp only[Value.cells] at e
 have e':Value.slice A len cap=Value.slice A' xs.length cap':=by simpa using e
 cases e'
 exact⟨A,cap,xs,rfl,hs,h2⟩
end
theorem bnd {α β:Type} (x:α) (f:α→Option β): (some x).bind f=f x:=(Option.bind_some x f).trans (Eq.refl _)
theorem cT {α:Type} (x y:α): (bif true then x else y)=x:=(cond_true x y).trans (Eq.refl _)
theorem cF {α:Type} (x y:α): (bif false then x else y)=y:=(cond_false x y).trans (Eq.refl _)
theorem ji {α:Type} {xs:List α} {k:Nat} (d:α) (h:k<xs.length):aq xs (k:Int)=some (xs.getD k d):=by
 unfold aq
 rw[if_pos (by omega)]
 simp[List.getD,h]
theorem getI_in {α:Type} {xs:List α} {i:Int} (d:α) (h0:0≤i) (h:i<xs.length):aq xs i=some (xs.getD i.toNat d):=by
 obtain⟨k,rfl⟩:=Int.eq_ofNat_of_zero_le h0
 exact ji d (by omega)
theorem yR {x:Int} (h0: -1000000000000≤x) (h1:x≤1000000000000):inR .i64 x:=inR_mk.2 ⟨by omega,by omega⟩
theorem bL {α:Type} {x:Int} {y:Option α} (h0: -1000000000000≤x) (h1:x≤1000000000000):ar (inR .i64 x) y=y:=di (yR h0 h1)
section
variable {σ β:Type} {step:σ→Option (Lp σ β)} {n:Nat}
theorem BB (f:Nat→σ) (p:Nat→Option β) (len:Nat) (e:β) (hs: ∀k,k<len→step (f k)=some (match p k with|some b=>.br b|none=>.nx (f (k+1)))) (he:step (f len)=some (.br e)) (hn:len<n):
 av step n (f 0)=some (((List.range len).findSome? p).getD e):=by
 have key: ∀m k,k+m=len→∀n,m<n→av step n (f k)=some (((List.range' k m).findSome? p).getD e):=by
  intro m
  induction m with
  |zero=>
   intro k hk n hn
   obtain⟨n,rfl⟩: ∃q,n=q+1:=⟨n-1,by omega⟩
   have:k=len:=by omega
   subst this
   simp[av,he]
  |succ m ih=>
   intro k hk n hn
   obtain⟨n,rfl⟩: ∃q,n=q+1:=⟨n-1,by omega⟩
   have h1:=hs k (by omega)
   rw[av,h1,Option.bind_some,List.range'_succ,List.findSome?_cons]
   cases p k with
   |some b=>rfl
   |none=>exact ih (k+1) (by omega) n (by omega)
 have:=key len 0 (by omega) n hn
 rwa [←List.range_eq_range'] at this
theorem loop_all (f:Nat→σ) (len:Nat) (e:β) (hs: ∀k,k<len→step (f k)=some (.nx (f (k+1)))) (he:step (f len)=some (.br e)) (hn:len<n):av step n (f 0)=some e:=by
 have:=BB f (λ_=>none) len e hs he hn
 rw[this]
 have: (List.range len).findSome? (λ_=>(none:Option β))=none:=by simp
 rw[this];rfl
theorem loop_any {step:Int→Option (Lp Int β)} (q:Nat→Bool) (len:Nat) (b e:β) (hs: ∀k:Nat,k<len→step (k:Int)=if q k then some (.br b) else some (.nx ((k:Int)+1))) (he:step (len:Int)=some (.br e)) (hn:len<n):
 av step n 0=some (bif(List.range len).any q then b else e):=by
 have:=BB (n:=n) (λk=>(k:Int)) (λk=>if q k then some b else none) len e (λk hk=>by
  rw[hs k hk]
  by_cases h:q k=true<;>simp[h]) he hn
 have e0: ((0:Nat):Int)=0:=rfl
 simp only[e0] at this
 rw[this]
 congr 1
 cases h: (List.range len).any q with
 |true=>
  cases h2: (List.range len).findSome? (λk=>if q k=true then some b else none) with
  |some x=>
   obtain⟨k,hk,hx⟩:=List.exists_of_findSome?_eq_some h2
   by_cases hq:q k=true
   ·simp[hq] at hx;simp[hx]
   simp[hq] at hx
  |none=>
   rw[List.findSome?_eq_none_iff] at h2
   obtain⟨k,hk,hq⟩:=List.any_eq_true.1 h
   have:=h2 k hk
   simp[hq] at this
 |false=>
  have: (List.range len).findSome? (λk=>if q k=true then some b else none)=none:=by
   rw[List.findSome?_eq_none_iff]
   intro k hk
   have:=List.any_eq_false.1 h k hk
   simp[this]
  rw[this];rfl
theorem dn (I:Nat→σ→Prop) (post:β→Prop) (len:Nat) {s0:σ} (h0:I 0 s0)
 (hs: ∀k s,k<len→I k s→(∃s',step s=some (.nx s')∧I (k+1) s')∨∃b,step s=some (.br b)∧post b)
 (he: ∀s,I len s→∃b,step s=some (.br b)∧post b) (hn:len<n): ∃b,av step n s0=some b∧post b:=by
 have key: ∀m k s,k+m=len→I k s→∀n,m<n→∃b,av step n s=some b∧post b:=by
  intro m
  induction m with
  |zero=>
   intro k s hk hI n hn
   obtain⟨n,rfl⟩: ∃q,n=q+1:=⟨n-1,by omega⟩
   have:k=len:=by omega
   subst this
   obtain⟨b,h1,h2⟩:=he s hI
   exact⟨b,by simp[av,h1],h2⟩
  |succ m ih=>
   intro k s hk hI n hn
   obtain⟨n,rfl⟩: ∃q,n=q+1:=⟨n-1,by omega⟩
   rcases hs k s (by omega) hI with⟨s',h1,h2⟩|⟨b,h1,h2⟩
   ·obtain⟨b,h3,h4⟩:=ih (k+1) s' (by omega) h2 n (by omega)
    exact⟨b,by simp[av,h1,h3],h4⟩
   exact⟨b,by simp[av,h1],h2⟩
 exact key len 0 s0 (by omega) h0 n hn
theorem loop_meas (I:σ→Prop) (μ:σ→Nat) (post:β→Prop) {s0:σ} (h0:I s0) (hs: ∀s,I s→(∃s',step s=some (.nx s')∧I s'∧μ s'<μ s)∨∃b,step s=some (.br b)∧post b) (hn:μ s0<n):
 ∃b,av step n s0=some b∧post b:=by
 have key: ∀m s,μ s≤m→I s→∀n,m<n→∃b,av step n s=some b∧post b:=by
  intro m
  induction m with
  |zero=>
   intro s hm hI n hn
   obtain⟨n,rfl⟩: ∃q,n=q+1:=⟨n-1,by omega⟩
   rcases hs s hI with⟨s',_,_,h3⟩|⟨b,h1,h2⟩
   ·omega
   exact⟨b,by simp[av,h1],h2⟩
  |succ m ih=>
   intro s hm hI n hn
   obtain⟨n,rfl⟩: ∃q,n=q+1:=⟨n-1,by omega⟩
   rcases hs s hI with⟨s',h1,h2,h3⟩|⟨b,h1,h2⟩
   ·obtain⟨b,h4,h5⟩:=ih s' (by omega) h2 n (by omega)
    exact⟨b,by simp[av,h1,h4],h5⟩
   exact⟨b,by simp[av,h1],h2⟩
 exact key (μ s0) s0 (Nat.le_refl _) h0 n hn
end
theorem any_range {α:Type} (d:α) (q:α→Bool) (xs:List α): ((List.range xs.length).any λk=>q (xs.getD k d))=xs.any q:=by
 rw[Bool.eq_iff_iff,List.any_eq_true,List.any_eq_true]
 constructor
 ·rintro⟨k,hk,h⟩
  have hk':k<xs.length:=by simpa using hk
  exact⟨xs[k],List.getElem_mem hk',by simpa [List.getD,hk'] using h⟩
 rintro⟨x,hx,h⟩
 obtain⟨k,hk,rfl⟩:=List.mem_iff_getElem.1 hx
 exact⟨k,by simpa using hk,by simpa [List.getD,hk] using h⟩
theorem sk {α:Type} (b:Bool) (x y:α): (bif b then x else y)=if b then x else y:=by cases b<;>rfl
mutual def dsz:Dat→Nat|.int _ _=>1|.bool _=>1|.str l=>l.length+1|.list _ ds=>dszs ds+1|.struct ds=>dszs ds+1 def dszs:List Dat→Nat|[]=>0|d::ds=>dsz d+dszs ds end
theorem gc: ∀ (a b:List Dat),dszs (a++b)=dszs a+dszs b
 |[],b=>by simp[dszs]
 |d::a,b=>by simp only[List.cons_append,dszs,gc a b];omega
theorem Bl: ∀ {ds:List Dat} {d:Dat},d∈ds→dsz d≤dszs ds
 |x::ds,d,h=>by
  rcases List.mem_cons.1 h with rfl|h
  ·simp only[dszs];omega
  have:=Bl h;simp only[dszs];omega
theorem dsz_pos: ∀d:Dat,1≤dsz d
 |.int _ _=>by simp[dsz]
 |.bool _=>by simp[dsz]
 |.str l=>by simp[dsz]
 |.list _ ds=>by simp[dsz]
 |.struct ds=>by simp[dsz]
theorem Bk: ∀ds:List Dat,ds.length≤dszs ds
 |[]=>by simp
 |d::ds=>by have:=dsz_pos d;have:=Bk ds;simp only[dszs,List.length_cons];omega
theorem le_sum: ∀ {l:List Nat} {x:Nat},x∈l→x≤l.sum
 |y::l,x,h=>by
  rcases List.mem_cons.1 h with rfl|h
  ·simp
  have:=le_sum h;simp only[List.sum_cons];omega
section
variable {H:Type}
structure BulkOk (B:DataW H→Nat):Prop where
 one: ∀d,1≤B d
 str: ∀l,B (.lit (.string l))=l.length+1
 slice: ∀e s,(e.map B).sum+1≤B (.slice e s)
 agg: ∀e,(e.map B).sum+1≤B (.agg e)
variable {enc:TypeId×Value→H} {P:Program} {w:World} {t:TypeId} {α:Type} {f:α→Dat} {m:Nat} {B:DataW H→Nat}
def OpnAt (enc:TypeId×Value→H) (P:Program) (w:World) (t:TypeId) {α:Type} (f:α→Dat) (B:DataW H→Nat) (m:Nat):Prop:=∀cs x,DataW.trod enc P w 0 (λ_=>true) true m t cs=some x→∃a,Rep (Mem.of w) (f a) cs∧Vld (f a)∧dsz (f a)≤B x.1
theorem OpnAt.zero:OpnAt enc P w t f B 0:=λcs x h=>by simp[DataW.trod] at h
theorem qx {k:IntKind} (hB:BulkOk B) (ht:P.underlying t=some (.int k)):OpnAt enc P w t (Dat.int k) B m:=λcs x h=>by
 obtain⟨a,rfl,_,hw⟩:=DataW.trod_int ht h
 exact⟨a,rfl,hw,hB.one _⟩
theorem mD (hB:BulkOk B) (ht:P.underlying t=some .bool):OpnAt enc P w t Dat.bool B m:=λcs x h=>by
 obtain⟨a,rfl,_⟩:=DataW.trod_bool ht h
 exact⟨a,rfl,trivial,hB.one _⟩
theorem dR (hB:BulkOk B) (ht:P.underlying t=some .string):OpnAt enc P w t Dat.str B m:=λcs x h=>by
 obtain⟨s,rfl,hx,hw⟩:=DataW.trod_string ht h
 refine⟨s.data.toList,(by show [Value.string s]=_;rw[S_eta]),by show s.data.toList.length≤maxLen;simpa using hw,?_⟩
 rw[hx]
 show s.data.toList.length+1≤B (.lit (.string s.data.toList))
 rw[hB.str]
 exact Nat.le_refl _
theorem opa_slice {e:TypeId} {sz:Nat} (hB:BulkOk B) (ht:P.underlying t=some (.slice e)) (hsz:P.cellsOf e=sz) (h:OpnAt enc P w e f B m):OpnAt enc P w t (eL sz f) B (m+1):=λcs x hx=>by
 rcases DataW.trod_slice ht hx with⟨rfl,hx⟩|⟨ad,len,cap,elems,rest,n',hn',rfl,hxe,_,hlc,hcm,hel,hat,_⟩
 ·refine⟨[],Sli.rep (Sli.nil (sz:=sz) (f:=f)),by simp[Vld,eL,VldAll],?_⟩
  have:=hB.one x.1
  simpa [eL,dsz,dszs] using this
 obtain rfl:n'=m:=by omega
 have key: ∀k,k≤len→∃xs:List α,xs.length=k∧RepArr (Mem.of w) sz (xs.map f) ad∧(∀x∈xs,Vld (f x))∧dszs (xs.map f)≤((elems.take k).map λx=>B x.1).sum:=by
  intro k
  induction k with
  |zero=>intro _;exact⟨[],rfl,trivial,λx hx=>(by cases hx),by simp[dszs]⟩
  |succ k ih=>
   intro hk
   obtain⟨xs,h1,h2,h3,h3b⟩:=ih (by omega)
   have hk':k<elems.length:=by omega
   have:=hat k (by omega)
   rw[List.getElem?_eq_getElem hk'] at this
   obtain⟨cs',g1,g2⟩:=Option.bind_eq_some_iff.1 this
   obtain⟨a,g3,g4,g4b⟩:=h cs' _ g2
   obtain⟨g5,g6⟩:=cells_of g1
   rw[hsz] at g5 g6
   refine⟨xs++[a],by simp[h1],?_,λx hx=>?_,?_⟩
   ·rw[List.map_append]
    have app: ∀ (ds:List Dat) (ad:Addr),RepArr (Mem.of w) sz ds ad→RepArr (Mem.of w) sz [f a] (ad.add (ds.length*sz))→RepArr (Mem.of w) sz (ds++[f a]) ad:=by
     intro ds
     induction ds with
     |nil=>intro ad _ hh;simpa [Addr.add] using hh
     |cons d ds ih=>
      intro ad h1 h2
      refine⟨h1.1,ih _ h1.2 ?_⟩
      rw[dg]
      rw[List.length_cons,show(ds.length+1)*sz=sz+ds.length*sz by rw[Nat.add_mul];omega] at h2
      exact h2
    refine app _ _ h2 ⟨⟨cs',g5,g3,?_⟩,trivial⟩
    rw[List.length_map,h1]
    exact g6
   ·rcases List.mem_append.1 hx with hx|hx
    ·exact h3 x hx
    simp at hx;subst hx;exact g4
   rw[List.map_append,gc,List.take_add_one,List.getElem?_eq_getElem hk',List.map_append,List.sum_append]
   simp only[List.map_cons,List.map_nil,dszs,Option.toList_some,List.sum_cons,List.sum_nil]
   omega
 obtain⟨xs,h1,h2,h3,h3b⟩:=key len (Nat.le_refl _)
 subst h1
 refine⟨xs,Sli.rep ⟨hlc,λe=>(by cases e),.inr ⟨ad,rfl,h2⟩⟩,?_,?_⟩
 ·refine⟨by rw[List.length_map];omega,VldAll.mk λd hd=>?_⟩
  obtain⟨x,hx,rfl⟩:=List.mem_map.1 hd
  exact h3 x hx
 rw[hxe]
 show dszs (xs.map f)+1≤_
 have:=hB.slice (elems.map (·.1)) (rest.map (·.1))
 rw[←hel,List.take_length] at h3b
 rw[List.map_map] at this
 have e: (elems.map (B ∘ λx=>x.1))=elems.map λx=>B x.1:=rfl
 rw[e] at this
 show _≤B (.slice (elems.map (·.1)) (rest.map (·.1)))
 omega
theorem cr {e:TypeId} {sz:Nat} (hB:BulkOk B) (ht:P.underlying t=some (.slice e)) (hsz:P.cellsOf e=sz) (h: ∀k,k<m→OpnAt enc P w e f B k):OpnAt enc P w t (eL sz f) B m:=by
 cases m with
 |zero=>exact OpnAt.zero
 |succ m=>exact opa_slice hB ht hsz (h m (Nat.lt_succ_self m))
theorem OpnAt.arg (h: ∀n,OpnAt enc P w t f B n) {v:Value} {d:DataW H} {ps:List MemPlace} (ht:DataW.Trod enc P w 0 (λ_=>true) true t v d ps): ∃a,Rep (Mem.of w) (f a) v.cells.toList∧Vld (f a)∧dsz (f a)≤B d:=by
 obtain⟨fuel,hf⟩:=ht
 exact h fuel _ _ hf
theorem OpnAt.slice_arg {e:TypeId} {sz:Nat} (hB:BulkOk B) (hu:P.underlying t=some (.slice e)) (hsz:P.cellsOf e=sz) (h: ∀n,OpnAt enc P w e f B n) {v:Value} {d:DataW H} {ps:List MemPlace} (hv: ∃A len cap,v=.slice A len cap) (ht:DataW.Trod enc P w 0 (λ_=>true) true t v d ps):
 ∃A cap xs,v=.slice A xs.length cap∧Sli (Mem.of w) sz f A cap xs∧Vld (eL sz f xs)∧dsz (eL sz f xs)≤B d:=by
 obtain⟨A,len,cap,rfl⟩:=hv
 obtain⟨xs,h1,h2⟩:=OpnAt.arg (f:=eL sz f) (λn=>cr hB hu hsz λk _=>h k) ht
 obtain⟨A',cap',e,hs⟩:=Rep.sli h1
 simp only[Value.cells] at e
 have e':Value.slice A len cap=Value.slice A' xs.length cap':=by simpa using e
 cases e'
 exact⟨A,cap,xs,rfl,hs,h2⟩
theorem OpnAt.struct_arg (h: ∀n,OpnAt enc P w t f B n) {v:Value} {d:DataW H} {ps:List MemPlace} (hv: ∃cs:Array Value,v=.agg cs) (ht:DataW.Trod enc P w 0 (λ_=>true) true t v d ps):
 ∃ (c:Lv) (a:α),v=.agg c.toArray∧Rep (Mem.of w) (f a) c∧Vld (f a)∧dsz (f a)≤B d:=by
 obtain⟨cs,rfl⟩:=hv
 obtain⟨a,h1,h2⟩:=OpnAt.arg h ht
 exact⟨cs.toList,a,by simp,h1,h2⟩
end
def Tot {α:Type} (x:Option α) (Q:α→Prop):Prop:=∃a,x=some a∧Q a
section
variable {α β σ:Type} {Q:α→Prop}
theorem Tot.s {a:α} (h:Q a):Tot (some a) Q:=⟨a,rfl,h⟩
theorem Tot.b {x:Option β} {f:β→Option α} (h:Tot x λa=>Tot (f a) Q):Tot (x.bind f) Q:=by
 obtain⟨a,rfl,b,h1,h2⟩:=h
 exact⟨b,h1,h2⟩
theorem Tot.m {x:Option α} {R:α→Prop} (h:Tot x R) (hi: ∀a,R a→Q a):Tot x Q:=by
 obtain⟨a,h1,h2⟩:=h
 exact⟨a,h1,hi a h2⟩
theorem Tot.k {x:Option β} {f:β→Option α} {R:β→Prop} (h:Tot x R) (hi: ∀a,R a→Tot (f a) Q):Tot (x.bind f) Q:=Tot.b (h.m hi)
theorem Tot.c {b:Bool} {x y:Option α} (h1:b=true→Tot x Q) (h2:b=false→Tot y Q):Tot (bif b then x else y) Q:=by
 cases b with
 |true=>exact h1 rfl
 |false=>exact h2 rfl
theorem Tot.cd {p:Prop} [Decidable p] {x y:Option α} (h1:p→Tot x Q) (h2: ¬p→Tot y Q):Tot (bif decide p then x else y) Q:=by
 by_cases h:p
 ·rw[dT h];exact h1 h
 rw[dF h];exact h2 h
theorem Tot.ct {x y:Option α} (h:Tot x Q):Tot (bif true then x else y) Q:=h
theorem Tot.cf {x y:Option α} (h:Tot y Q):Tot (bif false then x else y) Q:=h
theorem Tot.cn {b:Bool} {x y:Option α} (h:Tot (bif b then y else x) Q):Tot (bif !b then x else y) Q:=by
 cases b<;>exact h
theorem Tot.n {p:Prop} [Decidable p] {x:Option α} (h:p) (h2:Tot x Q):Tot (ar p x) Q:=by rw[di h];exact h2
theorem Tot.i {a:Int} {x:Option α} (h0: -9223372036854775808≤a∧a≤9223372036854775807) (h2:Tot x Q):Tot (ar (inR .i64 a) x) Q:=Tot.n (inR_mk.2 h0) h2
theorem Tot.g {xs:List α} {i:Int} (h:0≤i∧i<xs.length) (h2: ∀x,x∈xs→Q x):Tot (aq xs i) Q:=by
 obtain⟨k,rfl⟩:=Int.eq_ofNat_of_zero_le h.1
 have hk:k<xs.length:=by omega
 exact⟨xs[k],by simp[aq,hk],h2 _ (List.getElem_mem hk)⟩
def LpP {σ β:Type} (N:σ→Prop) (B:β→Prop):Lp σ β→Prop|.nx s=>N s|.br b=>B b
theorem Tot.sn {σ β:Type} {N:σ→Prop} {B:β→Prop} {s:σ} (h:N s):Tot (some (Lp.nx s)) (LpP N B):=⟨_,rfl,h⟩
theorem Tot.sb {σ β:Type} {N:σ→Prop} {B:β→Prop} {b:β} (h:B b):Tot (some (Lp.br b)) (LpP N B):=⟨_,rfl,h⟩
theorem Tot.l {step:σ→Option (Lp σ α)} {n:Nat} {s0:σ} (I:σ→Prop) (μ:σ→Nat) (h0:I s0) (hn:μ s0<n) (hs: ∀s,I s→Tot (step s) (LpP (λs'=>I s'∧μ s'<μ s) Q)):Tot (av step n s0) Q:=by
 obtain⟨b,h1,h2⟩:=loop_meas (step:=step) (n:=n) I μ Q h0 (λs hI=>by
  obtain⟨r,h1,h2⟩:=hs s hI
  cases r with
  |nx s'=>exact .inl ⟨s',h1,h2.1,h2.2⟩
  |br b=>exact .inr ⟨b,h1,h2⟩) hn
 exact⟨b,h1,h2⟩
theorem Tot.li {step:σ→Option (Lp σ α)} {n:Nat} {s0:σ} (ix:σ→Int) (J:σ→Prop) (len:Nat) (hn:len<n) (h0:0≤ix s0∧J s0) (hs: ∀s,0≤ix s→J s→Tot (step s) (LpP (λs'=>ix s<len∧ix s<ix s'∧J s') Q)):Tot (av step n s0) Q:=
 Tot.l (λs=>0≤ix s∧J s) (λs=>(len-ix s).toNat) h0 (by omega) λs h=>(hs s h.1 h.2).m λr hr=>by
  cases r with
  |nx s'=>obtain⟨h1,h2,h3⟩:=hr;exact⟨⟨by omega,h3⟩,by omega⟩
  |br b=>exact hr
end
class Tt {α:Type} (x:Option α) (P:outParam Prop) (R:outParam (α→Prop)):Prop where
 t:P→Tot x R
section
variable {α β:Type} {Q:α→Prop}
theorem Tot.cl {x:Option β} {f:β→Option α} {P:Prop} {R:β→Prop} [h:Tt x P R] (hp:P) (hi: ∀a,R a→Tot (f a) Q):Tot (x.bind f) Q:=(h.t hp).k hi
theorem Tot.c1 {x:Option α} {P:Prop} {R:α→Prop} [h:Tt x P R] (hp:P) (hi: ∀a,R a→Q a):Tot x Q:=(h.t hp).m hi
end
class Sz (α:Type) where
 f:α→Dat
 P:α→Prop
 p: ∀x,P x
abbrev zz {α:Type} [Sz α] (x:α):Nat:=dsz (Sz.f x)
abbrev zl {α:Type} [Sz α] (xs:List α):Nat:=dszs (xs.map Sz.f)
theorem dZ {α:Type} [Sz α] {xs:List α} {x:α} (h:x∈xs):zz x≤zl xs:=Bl (List.mem_map_of_mem h)
theorem lU {α:Type} [Sz α] (xs:List α):xs.length≤zl xs:=by have:=Bk (xs.map Sz.f);simpa using this
theorem Tot.gz {α:Type} [Sz α] {Q:α→Prop} {xs:List α} {i:Int} (h:0≤i∧i<xs.length) (h2: ∀x,x∈xs→zz x≤zl xs→Sz.P x→Q x):Tot (aq xs i) Q:=Tot.g h λx hx=>h2 x hx (dZ hx) (Sz.p x)
theorem Tot.jn {σ α:Type} {Q:α→Prop} {y:σ} {kk:σ→Option α} (h:Tot (kk y) Q):Tot (joinF (Lp.nx y:Lp σ α) kk) Q:=h
theorem Tot.jb {σ α:Type} {Q:α→Prop} {l:α} {kk:σ→Option α} (h:Q l):Tot (joinF (Lp.br l:Lp σ α) kk) Q:=⟨l,rfl,h⟩
theorem Tot.mb {σ α:Type} {R:Lp σ α→Prop} {x:Option α} (h:Tot x λl=>R (.br l)):Tot (x.map Lp.br) R:=by
 obtain⟨a,rfl,h⟩:=h
 exact⟨_,rfl,h⟩
theorem Tot.ge {α:Type} {Q:α→Prop} {x:Option α} {a:α} (h:x=some a) (h2:Q a):Tot x Q:=⟨a,h,h2⟩
theorem Tot.gy {α:Type} {Q:α→Prop} {xs:List α} {i:Int} (h:0≤i∧i<xs.length) (h2: ∀x,aq xs i=some x→x∈xs→Q x):Tot (aq xs i) Q:=by
 obtain⟨a,h1,h3⟩:=Tot.g (Q:=λx=>x∈xs) h λx hx=>hx
 exact⟨a,h1,h2 a h1 h3⟩
theorem Tot.gx {α:Type} [Sz α] {Q:α→Prop} {xs:List α} {i:Int} (h:0≤i∧i<xs.length) (h2: ∀x,aq xs i=some x→x∈xs→zz x≤zl xs→Sz.P x→Q x):Tot (aq xs i) Q:=Tot.gy h λx he hx=>h2 x he hx (dZ hx) (Sz.p x)
instance:Sz Bs:=⟨Dat.str,λx=>dsz (Dat.str x)=x.length+1,λx=>by simp[dsz]⟩
instance:Sz Int:=⟨Dat.int .i64,λ_=>True,λ_=>trivial⟩
instance:Sz Bool:=⟨Dat.bool,λ_=>True,λ_=>trivial⟩
theorem dszs_take {α:Type} (f:α→Dat) {xs:List α} {k:Nat} (h:k<xs.length):dszs ((xs.take (k+1)).map f)=dszs ((xs.take k).map f)+dsz (f xs[k]):=by
 rw[List.take_add_one,List.getElem?_eq_getElem h,Option.toList_some,List.map_append,gc]
 simp[dszs]
theorem lA {α:Type} [Sz α] {xs:List α} (k:Nat):zl (xs.take k)≤zl xs:=by
 have h:dszs ((xs.take k++xs.drop k).map Sz.f)=dszs ((xs.take k).map Sz.f)+dszs ((xs.drop k).map Sz.f):=by rw[List.map_append,gc]
 rw[List.take_append_drop] at h
 show dszs _≤dszs _
 omega
theorem zl_tk1 {α:Type} [Sz α] (xs:List α) (k:Nat):zl (xs.take k)≤zl (xs.take (k+1)):=by
 have:=lA (xs:=xs.take (k+1)) k
 rwa [List.take_take,Nat.min_eq_left (Nat.le_succ k)] at this
theorem Tot.gt {α:Type} {Q:α→Prop} {xs:List α} {i:Int} (h:0≤i∧i<xs.length) (h2: ∀x,x∈xs→(∀f:α→Dat,dszs ((xs.take (i.toNat+1)).map f)=dszs ((xs.take i.toNat).map f)+dsz (f x))→Q x):Tot (aq xs i) Q:=by
 obtain⟨k,rfl⟩:=Int.eq_ofNat_of_zero_le h.1
 have hk:k<xs.length:=by omega
 exact⟨xs[k],by simp[aq,hk],h2 _ (List.getElem_mem hk) λf=>dszs_take f (by simpa using hk)⟩
theorem cu {α:Type} {p:α→Prop} {xs:List α} {i:Int} (h: ¬i<xs.length) (h1: ∀y∈xs.take i.toNat,p y): ∀y∈xs,p y:=by
 rw[List.take_of_length_le (by omega)] at h1
 exact h1
theorem Tot.lm {α σ β:Type} {Q:β→Prop} {step:σ→Option (Lp σ β)} {n:Nat} {s0:σ} (xs:List α) (ix:σ→Int) (p:α→Prop) (J:σ→Prop) (hn:xs.length<n) (h0:ix s0=0) (hj:J s0)
 (hs: ∀s,0≤ix s→J s→(∀y∈xs.take (ix s).toNat,p y)→Tot (step s) (LpP (λs'=>ix s<xs.length∧ix s'=ix s+1∧(∀y∈xs.take (ix s+1).toNat,p y)∧J s') Q)):Tot (av step n s0) Q:=
 Tot.li ix (λs=>(∀y∈xs.take (ix s).toNat,p y)∧J s) xs.length hn ⟨by omega,by rw[h0];simp,hj⟩ λs h1 h2=>(hs s h1 h2.2 h2.1).m λr hr=>by
  cases r with
  |nx s'=>obtain⟨g1,g2,g3,g4⟩:=hr;exact⟨g1,by omega,by rw[g2];exact g3,g4⟩
  |br b=>exact hr
theorem Tot.gm {α:Type} {Q:α→Prop} {xs:List α} {i:Int} (h:0≤i∧i<xs.length) (h2: ∀x,x∈xs→(∀ {p:α→Prop},(∀y∈xs.take i.toNat,p y)→p x→∀y∈xs.take (i+1).toNat,p y)→Q x):Tot (aq xs i) Q:=by
 obtain⟨k,rfl⟩:=Int.eq_ofNat_of_zero_le h.1
 have hk:k<xs.length:=by omega
 refine⟨xs[k],by simp[aq,hk],h2 _ (List.getElem_mem hk) λ {p} h1 h3 y hy=>?_⟩
 have e: ((k:Int)+1).toNat=k+1:=by omega
 rw[e,List.take_add_one,List.getElem?_eq_getElem hk] at hy
 rcases List.mem_append.1 hy with hy|hy
 ·exact h1 y (by simpa using hy)
 simp at hy;rw[hy];exact h3
theorem ins_sz {α:Type} (f:α→Dat) (l:List α) (x:α) (k:Nat):dszs (((l.take k++[x])++(([]:List α)++(l.take l.length).drop k)).map f)=dszs (l.map f)+dsz (f x):=by
 have h:dszs ((l.take k++l.drop k).map f)=dszs ((l.take k).map f)+dszs ((l.drop k).map f):=by rw[List.map_append,gc]
 rw[List.take_append_drop] at h
 simp only[List.take_length,List.nil_append,List.map_append,gc,List.map_cons,List.map_nil,dszs]
 omega
theorem AK {α:Type} (l:List α) (x:α) {k:Nat} (h:k≤l.length): ((l.take k++[x])++(([]:List α)++(l.take l.length).drop k)).length=l.length+1:=by simp;omega
theorem ins_mem {α:Type} {l:List α} {x y:α} {k:Nat} (h:y∈ (l.take k++[x])++(([]:List α)++(l.take l.length).drop k)):y=x∨y∈l:=by
 simp only[List.take_length,List.nil_append,List.mem_append,List.mem_singleton] at h
 rcases h with(h|h)|h
 ·exact .inr (List.mem_of_mem_take h)
 ·exact .inl h
 exact .inr (List.mem_of_mem_drop h)
theorem tgo {α:Type} {x:Option α} {Q:α→Prop} (h:Tot x Q:=by
 repeat' with_reducible first
  |assumption
  |intro _
  |exact trivial
  |refine Tot.sn ?_
  |refine Tot.sb ?_
  |refine Tot.s ?_
  |refine Tot.i ?_ ?_
  |refine Tot.b (Tot.ge (by assumption) ?_)
  |refine Tot.b (Tot.gx ?_ ?_)
  |refine Tot.b (Tot.gy ?_ ?_)
  |refine Tot.cl ?_ ?_
  |refine Tot.b ?_
  |refine Tot.ct ?_
  |refine Tot.cf ?_
  |refine Tot.cn ?_
  |refine Tot.cd ?_ ?_
  |refine Tot.c ?_ ?_
  |refine Tot.n ?_ ?_
  |refine Tot.jn ?_
  |refine Tot.jb ?_
  |refine Tot.mb ?_
  |omega
  |(simp only[Sz.P,Sz.f,zz,zl] at*;omega)
  |(refine⟨?_,?_⟩)
  |split
  |(simp only[List.length_append,List.length_cons,List.length_nil,List.length_take,List.length_drop];omega)):Tot x Q:=h
end Go.Vc
end
section
namespace Go.Vc
open Go Go.RowKit
variable {dd:List Deferred}
section
variable {P:Program} {ops:Array Oper} {n:Nat} {Q:Exit→Act→World→Prop} {L:Fr} {a:Act} {w0 w:World} {M:Mem} {H:List Ent}
theorem W_storeN {o:Oper} {rest:List Oper} {t:TypeId} {x y:Operand} {b j:Nat} {vs:Lv} {cs cs':Array Value} {T:TypeId} {lo hi:Nat} (hf:Frm n L a dd) (hp:Hp w0 M (.obj b (.cells cs T (lo,hi))::H) w)
 (hw:bv ops L o=some true) (hr:bX L o=true) (hd:o.dst=none) (ho:o.op=.store t x y) (hx:ev L x=.pointer (some ⟨b,j,none⟩)) (hy:ev L y=.agg vs.toArray) (h1: ∀v∈vs,v.oneCell'=true) (hs:szIs P t vs.length=true)
 (hj:j+vs.length≤cs.size) (hfr:hi≤lo) (hH:setM cs j vs=cs')
 (hk: ∀w',Hp w0 M (.obj b (.cells cs' T (lo,hi))::H) w'→∀a',Frm n L a' dd→wpList P ops Q rest a' w'):wpList P ops Q (o::rest) a w:=by
 subst hH
 have hrun:=run_storeCells_cells (P:=P) b j vs 0 w
  (λi hi=>by
   have:=hp.ownCell 0 rfl (j+i)
   rw[Nat.add_zero]
   rw[this]
   simp
   omega)
  (λi _=>by
   rw[Nat.add_zero]
   exact hp.ownFrozen 0 rfl (j+i) (by omega)) h1
 refine xy hf hw hr hd ?_ (hk (w.setCells b j vs) (hp.setCells vs j))
 unfold execOp
 simp only[ho,hx,hy,Instr.storeAt,Instr.sureAddr,Sem.run_bind,Sem.run_pure,Result.andThen_ok,storeVar,Value.cells,ic hs]
 simp only[List.size_toArray,ne_eq,not_true_eq_false,if_false]
 rw[Nat.add_zero] at hrun
 simpa using congrArg (λr=>Result.andThen r _) hrun
end
section
variable {P:Program} {w0 w:World} {M:Mem} {H:List Ent} {ρ:Operand→Value} {o:Oper}
end
section
variable {P:Program} {w:World} {ρ:Operand→Value} {o:Oper}
theorem X_min {x y:Operand} {t t':TypeId} {k:IntKind} {a b:Int} (ho:o.op=.call {callee:=.builtin .min,args:=#[x,y],argTypes:=#[t,t']}) (hx:ρ x=.int k a) (hy:ρ y=.int k b):
 (execOp ρ o).run P w=.ok (.value (.int k (min a b))) w:=by
 have:min a b=if b<a then b else a:=by split<;>omega
 rw[this]
 unfold execOp
 simp only[ho,resolve,invoke,builtin,List.map_toArray,List.map_cons,List.map_nil,hx,hy,Sem.run_bind,Sem.run_pure,Result.andThen_ok]
 simp[Builtin.min_,Builtin.min2]
theorem X_max {x y:Operand} {t t':TypeId} {k:IntKind} {a b:Int} (ho:o.op=.call {callee:=.builtin .max,args:=#[x,y],argTypes:=#[t,t']}) (hx:ρ x=.int k a) (hy:ρ y=.int k b):
 (execOp ρ o).run P w=.ok (.value (.int k (max a b))) w:=by
 have:max a b=if b>a then b else a:=by split<;>omega
 rw[this]
 unfold execOp
 simp only[ho,resolve,invoke,builtin,List.map_toArray,List.map_cons,List.map_nil,hx,hy,Sem.run_bind,Sem.run_pure,Result.andThen_ok]
 simp[Builtin.max_,Builtin.max2]
end
section
variable {α:Type} {P:Program} {ops:Array Oper} {n:Nat} {Q:Exit→Act→World→Prop} {L:Fr} {a:Act} {w0 w:World} {M:Mem} {H:List Ent} {sz:Nat} {f:α→Dat}
theorem W_appendT {o:Oper} {rest:List Oper} {d:Nat} {t tx e:TypeId} {x y:Operand} {z v:Value} {xs l:Bs} {cs:Lv} (hf:Frm n L a dd) (hp:Hp w0 M (.row e 1 v xs.length cs::H) w) (hcs:au M (xs.map embB) cs)
 (hw:bv ops L o=some true) (hr:bX L o=true) (hd:o.dst=some d) (hdn:Nat.blt d n=true) (ho:o.op=.call {callee:=.builtin .append,args:=#[x,y],argTypes:=#[t,tx]})
 (hx:ev L x=v) (hy:ev L y=S l) (ht:P.underlying t=some (.slice e)) (htx:P.underlying tx=some .string) (hi:infoIs P e z 1 1=true)
 (hb: (xs.length+l.length)*1≤140737488355328) (h63:xs.length+l.length≤9223372036854775807)
 (hk: ∀A cap cs' w',Hp w0 M (.row e 1 (.slice A (xs++l).length cap) (xs++l).length cs'::H) w'→au M ((xs++l).map embB) cs'→∀a',Frm n ((d,.slice A (xs++l).length cap)::L) a' dd→wpList P ops Q rest a' w'):wpList P ops Q (o::rest) a w:=by
 obtain⟨i,u,hi1,hi2,hi3,hi4,hi5,hi6⟩:=AJ hi
 have hsrc:=Src.ofString (P:=P) w htx (mkS l)
 have e1: (mkS l).size=l.length:=rfl
 have e2:byteCells (mkS l)=nh l:=by simp[byteCells,nh]
 rw[e1,e2] at hsrc
 obtain⟨v',w',hrun,hp'⟩:=hp.appendSrc (ty:=o.type) hsrc ht hi1 hi2 hi3 hi5 (by omega) (by rw[hi4];exact hb) h63
 obtain⟨A,cap,rfl,_⟩:=hp'.rowShape 0 rfl
 have hx': (execOp (ev L) o).run P w=.ok (.value (.slice A (xs.length+l.length) cap)) w':=by
  unfold execOp
  simp only[ho,resolve,invoke,builtin,Sem.run_bind,Sem.run_pure,Result.andThen_ok,List.map_toArray,List.map_cons,List.map_nil,hx,hy]
  simp only[S] at hy ⊢
  rw[hrun]
  rfl
 refine Af hf hw hr hd hdn hx' λa' ha=>?_
 have e3:xs.length+l.length=(xs++l).length:=by simp
 rw[e3] at ha hp'
 exact hk A cap (cs++nh l) w' hp' (hcs.more (au.bytes l)) a' ha
end
def rvOf (tmps:Array Value):ResultVar→Sem Value
 |.tmp t=>pure (tmps.getD t undef)
 |.cell x t=>do loadVar t (←asAddr (tmps.getD x undef))
theorem results_rv (fn:Func) (tmps:Array Value):results fn tmps=(do
 let vs ←fn.results.mapM (rvOf tmps)
 pure (if h:vs.size=1 then vs[0] else .tuple vs)):=rfl
section
variable {P:Program} {fn:Func} {n:Nat} {L:Fr} {a:Act} {w:World} {R:Ending→World→Prop}
def Rv (P:Program) (a:Act) (w:World) (r:ResultVar) (v:Value):Prop:=(rvOf a.tmps r).run P w=.ok v w
theorem Rv.slot (hf:Frm n L a dd) {t:Nat} {v:Value} (h:look L t=some v):Rv P a w (.tmp t) v:=by
 unfold Rv rvOf
 simp only[AQ hf h,Sem.run_pure]
theorem Rv.cell1 (hf:Frm n L a dd) {x t:Nat} {ad:Addr} {v:Value} (h:look L x=some (.pointer (some ad))) (ht:one1 P t=true) (hc:w.cell? ad=some v):Rv P a w (.cell x t) v:=by
 unfold Rv rvOf
 simp only[AQ hf h,asAddr,Sem.run_bind,Sem.run_pure,Result.andThen_ok,loadVar,aAa ht]
 simp[hc]
theorem Rv.cellN (hf:Frm n L a dd) {x t:Nat} {ad:Addr} {cs:Lv} (h:look L x=some (.pointer (some ad))) (ht:aggN P t cs.length=true) (hc: ∀j v,cs[j]? =some v→w.cell? (ad.add j)=some v):Rv P a w (.cell x t) (.agg cs.toArray):=by
 unfold Rv rvOf
 obtain⟨h1,h2⟩:=aAb (w:=w) ht
 simp only[AQ hf h,asAddr,Sem.run_bind,Sem.run_pure,Result.andThen_ok,loadVar,h1,if_true,ic h2,run_loadCells_list w ad cs hc]
end
end Go.Vc
namespace Go.Vc
open Go Go.RowKit
variable {dd:List Deferred}
section
variable {P:Program} {ops:Array Oper} {md:Region.Mode} {C:World→Prop}
end
section
variable {P:Program} {w0 w:World} {M:Mem} {H:List Ent} {a:Act}
end
end Go.Vc
namespace Go.Vc
open Go Go.RowKit
variable {dd:List Deferred}
section
variable {P:Program} {ops:Array Oper} {md:Region.Mode} {Q:Exit→Act→World→Prop} {I:Type} {Cl:I→World→Prop}
def noPan (Q:Exit→Act→World→Prop):Exit→Act→World→Prop|.panic c,a,w=>∀a':Act,a'.tmps.size=a.tmps.size→a'.defers=a.defers→Q (.panic c) a' w|e,a,w=>Q e a w
def mixQ (Q:Exit→Act→World→Prop) (K:Act→World→Prop):Exit→Act→World→Prop|.normal,a,w=>K a w|.panic c,a,w=>∀a':Act,a'.tmps.size=a.tmps.size→a'.defers=a.defers→Q (.panic c) a' w|e,a,w=>Q e a w
theorem put_size (a:Act) (d:Option Nat) (v:Value): (a.put d v).tmps.size=a.tmps.size:=by
 unfold Act.put
 cases d<;>simp
theorem put_dfs (a:Act) (d:Option Nat) (v:Value): (a.put d v).defers=a.defers:=by
 unfold Act.put
 cases d<;>simp
theorem noPan_put {c:List PanicEntry} {a:Act} {d:Option Nat} {v:Value} {w:World} (h:noPan Q (.panic c) (a.put d v) w):noPan Q (.panic c) a w:=
 λa' h1 h2=>h a' (h1.trans (put_size a d v).symm) (h2.trans (put_dfs a d v).symm)
theorem letsOut_mixQ {K:Act→World→Prop} (h:LetsOut (mixQ Q K)):LetsOut (noPan Q):=h
theorem Oper.wp_mixQ {o:Oper} {a:Act} {w:World} {K:Act→World→Prop} (h:o.wp P a w (λa w=>mixQ Q K .normal a w) (mixQ Q K)):o.wp P a w K (noPan Q):=by
 unfold Oper.wp at*
 generalize (execOp a.eval o).run P w=r at*
 cases r with
 |ok n w'=>
  cases n<;>simp only[Oper.upon] at h ⊢ <;>
   first
    |exact h
    |exact Calls.mono h (λe w'' he=>by cases e<;>exact he)
 |halt x w'=>cases x<;>simp only[Oper.upon] at h ⊢ <;>exact h
def YieldsU (P:Program) (ops:Array Oper) (Cl:I→World→Prop) (o:Oper) (v:Value) (a:Act):Prop:=(Region.wanted o (yielded ops a.tmps)=true∧∀i w,Cl i w→o.quietAt P a (Cl i) w v)∨(Region.wanted o (yielded ops a.tmps)=false∧v=undef)
theorem YieldsU.one {o:Oper} {v:Value} {a:Act} (hy:YieldsU P ops Cl o v a) (i:I):YieldsIn P ops (Cl i) o v a:=by
 rcases hy with⟨h1,h2⟩|h
 ·exact .inl ⟨h1,h2 i⟩
 exact .inr h
theorem YieldsU.of_same {o:Oper} {v:Value} {a a':Act} (hy:YieldsU P ops Cl o v a) (he:execOp a'.eval o=execOp a.eval o)
 (hw:Region.wanted o (yielded ops a'.tmps)=Region.wanted o (yielded ops a.tmps)):YieldsU P ops Cl o v a':=by
 unfold YieldsU Oper.quietAt at*
 rw[he,hw]
 exact hy
theorem wpOpU_put {j:Nat} {oi oj:Oper} {v:Value} (hj:ops[j]? =some oj) (hap:oi.apart ops oj=true)
 (hsi: ∀cs b,oi.op≠ .select cs b) (hsj: ∀cs b,oj.op≠ .select cs b) {K:Act→World→Prop} {a:Act} {w:World}
 (hy:YieldsU P ops Cl oi v a) (h:wpOp P ops (noPan Q) j K (a.put oi.dst v) w):
 wpOp P ops (noPan Q) j (λa' w'=>YieldsU P ops Cl oi v a'∧K (a'.put oi.dst v) w') a w:=by
 obtain⟨h1,h2,h3⟩:=Oper.apart_spec hap
 have keep: ∀ (a:Act),YieldsU P ops Cl oi v a→∀u,YieldsU P ops Cl oi v (a.put oj.dst u):=λa hy u=>
  hy.of_same (execOp_put oi hsi a oj.dst u h3) (wanted_put oi a oj.dst u h3)
 have keepD: ∀d,YieldsU P ops Cl oi v {a with defers:=d::a.defers}:=λd=>hy.of_same rfl rfl
 unfold wpOp at*
 simp only[hj] at*
 rw[wanted_put oj a oi.dst v h1] at h
 split
 ·rename_i hw
  simp only[hw,if_true] at h
  rcases h with h|⟨hasks,hlets⟩
  case inr=>exact .inr ⟨by unfold Oper.asks at*;rw[execOp_put oj hsj a oi.dst v h1] at hasks;exact hasks,hlets⟩
  refine .inl ?_
  unfold Oper.wp at*
  rw[execOp_put oj hsj a oi.dst v h1] at h
  generalize (execOp a.eval oj).run P w=r at*
  cases r with
  |ok n w'=>
   cases n<;>simp only[Oper.upon] at h ⊢
   case value u=>exact⟨keep a hy u,by rw[←Act.put_comm a v u h2];exact h⟩
   case skip=>exact⟨keep a hy _,by rw[←Act.put_comm a v undef h2];exact h⟩
   case defer d=>
    refine⟨keep _ (keepD d) _,?_⟩
    rw[←Act.put_comm _ v undef h2,←Act.put_defers]
    exact h
   case enter f args=>
    refine Calls.mono h λe w'' he=>?_
    cases e with
    |returned u=>exact⟨keep a hy u,by rw[←Act.put_comm a v u h2];exact he⟩
    |panicked c=>exact noPan_put he
    |outgrown=>exact he
   case row row args=>exact Go.Rows.mono h λu w'' he=>⟨keep a hy u,by rw[←Act.put_comm a v u h2];exact he⟩
  |halt x w'=>
   cases x<;>simp only[Oper.upon] at h ⊢
   case panic u=>exact noPan_put h
 rename_i hw
 simp only[hw] at h
 exact⟨keep a hy _,by rw[←Act.put_comm a v undef h2];exact h⟩
def wpAnyI (P:Program) (md:Region.Mode) (ops:Array Oper) (Q:Exit→Act→World→Prop) (Cl:I→World→Prop):Nat→Array Bool→Act→I→Prop|0,listed,a,i=>Region.ready md ops listed=[]∧∀w,Cl i w→Q .normal a w|f+1,listed,a,i=>(Region.ready md ops listed=[]→∀w,Cl i w→Q .normal a w)∧∀w,Cl i w→∀j∈Region.ready md ops listed,wpOp P ops (noPan Q) j (λa' w'=>∃i',Cl i' w'∧wpAnyI P md ops Q Cl f (listed.setIfInBounds j true) a' i') a w
theorem aAg: ∀ (f:Nat) (listed:Array Bool) (a:Act) (i:I) (w:World),Cl i w→wpAnyI P md ops Q Cl f listed a i→wpAny P md ops (noPan Q) f listed a w
 |0,_,_,_,w,hw,h=>⟨h.1,h.2 w hw⟩
 |f+1,_,_,_,w,hw,h=>⟨λh0=>h.1 h0 w hw,λj hj=>wpOp_mono (λa' w' ⟨i',h1,h2⟩=>aAg f _ a' i' w' h1 h2) (h.2 w hw j hj)⟩
theorem YieldsU.wpOp {k:Nat} {o:Oper} {v:Value} {a:Act} {w:World} {i:I} (hk:ops[k]? =some o) (hy:YieldsU P ops Cl o v a) (hC:Cl i w) {K:Act→World→Prop} (h: ∀w',Cl i w'→K (a.put o.dst v) w'):
 wpOp P ops (noPan Q) k K a w:=
 wpOp_of_qOp (C:=Cl i) (K:=λa'=>a'=a.put o.dst v) hC (λa' w' hw' e=>by subst e;exact h w' hw') ((hy.one i).qOp hk rfl)
theorem ur {k:Nat} {ok:Oper} {v:Value} (hk:ops[k]? =some ok) (hsel: ∀ (j:Nat) (o:Oper) cs b,ops[j]? =some o→o.op≠ .select cs b):
 ∀ (f:Nat) (listed:Array Bool) (a:Act) (i:I),
  (∀j oj,ops[j]? =some oj→j≠k→listed.getD j true=false→(∀e∈oj.after,Region.binds md e=true→e.on≠k)→ok.apart ops oj=true)→
  k∈Region.ready md ops listed→YieldsU P ops Cl ok v a→
  wpAnyI P md ops Q Cl f (listed.setIfInBounds k true) (a.put ok.dst v) i→wpAnyI P md ops Q Cl (f+1) listed a i:=by
 intro f
 induction f with
 |zero=>
  intro listed a i _ hr hy H
  refine⟨λh=>(by rw[h] at hr;cases hr),λw hw j hj=>?_⟩
  by_cases hji:j=k
  ·subst hji;exact hy.wpOp hk hw λw' hw'=>⟨i,hw',H⟩
  have:=ready_mono hj hji
  rw[H.1] at this
  cases this
 |succ f ih=>
  intro listed a i hfree hr hy H
  refine⟨λh=>(by rw[h] at hr;cases hr),λw hw j hj=>?_⟩
  by_cases hji:j=k
  ·subst hji;exact hy.wpOp hk hw λw' hw'=>⟨i,hw',H⟩
  have h1:=H.2 w hw j (ready_mono hj hji)
  obtain⟨hjun,oj,hoj,hall⟩:=mem_ready.1 hj
  have hnot: ∀e∈oj.after,Region.binds md e=true→e.on≠k:=λe he hb heq=>by
   have h1:=hall e he hb
   have h0:=(mem_ready.1 hr).1
   rw[heq] at h1
   rcases Nat.lt_or_ge k listed.size with h'|h'
   ·simp[h'] at h0 h1;rw[h0] at h1;cases h1
   simp[Array.getElem?_eq_none h'] at h1
  have h2:=wpOpU_put hoj (hfree j oj hoj hji hjun hnot) (λcs b=>hsel k ok cs b hk) (λcs b=>hsel j oj cs b hoj) hy h1
  have hfree': ∀m om,ops[m]? =some om→m≠k→(listed.setIfInBounds j true).getD m true=false→
   (∀e∈om.after,Region.binds md e=true→e.on≠k)→ok.apart ops om=true:=λm om hm hmk hun hno=>by
   refine hfree m om hm hmk ?_ hno
   by_cases hjm:j=m
   ·subst hjm;exact hjun
   rw[Go.getD_set_ne true hjm] at hun;exact hun
  refine wpOp_mono (λa' w' ⟨h3,i',h4,h5⟩=>⟨i',h4,ih (listed.setIfInBounds j true) a' i' hfree' (ready_mono hr (Ne.symm hji)) h3 ?_⟩) h2
  rw[Array.setIfInBounds_comm _ _ hji]
  exact h5
theorem noPan_imp {e:Exit} {a:Act} {w:World} (h:noPan Q e a w):Q e a w:=by
 cases e<;>first|exact h|exact h a rfl rfl
end
def Cla (w0:World) (M:Mem) (Hr:List Ent) (i:Mem×List Ent) (w:World):Prop:=M.le i.1∧Hp w0 i.1 (i.2++Hr) w
section
variable {P:Program} {ops:Array Oper} {n:Nat} {Q:Exit→Act→World→Prop} {L:Fr} {a:Act} {w0 w:World} {M:Mem} {Hr:List Ent} {i:Mem×List Ent}
theorem Cla.hp (h:Cla w0 M Hr i w):Hp w0 M Hr w:=by
 obtain⟨h1,h2⟩:=h
 have:Hp w0 i.1 Hr w:=by
  have:=h2.dropN i.2.length
  simpa using this
 exact this.less h1
end
end Go.Vc
namespace Go.Vc
open Go Go.RowKit
variable {dd:List Deferred}
section
variable {P:Program} {w w0:World} {M:Mem} {H:List Ent} {ρ:Operand→Value} {o:Oper}
end
section
variable {P:Program} {ops:Array Oper} {n:Nat} {Q:Exit→Act→World→Prop} {L:Fr} {a:Act} {w0 w:World} {M:Mem} {H:List Ent}
end
end Go.Vc
namespace Go.Vc
open Go Go.RowKit
variable {dd:List Deferred}
section
variable {P:Program} {w w' w0:World} {M M':Mem} {H:List Ent}
def Tabs (g3 g4:Nat) (M:Mem):Prop:=(∀c,c<256→M.cell? ⟨g3,c,none⟩=some (.int .u8 (Lib.firstT c)))∧(∀i,i<16→M.cell? ⟨g4,2*i,none⟩=some (.int .u8 (Lib.accLo i))∧M.cell? ⟨g4,2*i+1,none⟩=some (.int .u8 (Lib.accHi i)))
theorem Tabs.mono {g3 g4:Nat} (h:Tabs g3 g4 M) (hM:M.le M'):Tabs g3 g4 M':=⟨λc hc=>hM.cell (h.1 c hc),λi hi=>⟨hM.cell (h.2 i hi).1,hM.cell (h.2 i hi).2⟩⟩
theorem Tabs.at {g3 g4:Nat} (h:Tabs g3 g4 M) (hp:Hp w0 M H w):Lib.Utf8Tabs g3 g4 w:=⟨λc hc=>hp.cell (h.1 c hc),λi hi=>⟨hp.cell (h.2 i hi).1,hp.cell (h.2 i hi).2⟩⟩
def IntVar (g:Nat) (M:Mem):Prop:=∃m,M.cell? ⟨g,0,none⟩=some (.int .i64 m)
theorem IntVar.mono {g:Nat} (h:IntVar g M) (hM:M.le M'):IntVar g M':=h.imp λ_ h=>hM.cell h
end
end Go.Vc
namespace Go.Vc
open Go Go.RowKit
variable {dd:List Deferred}
section
variable {P:Program} {ops:Array Oper} {n:Nat} {Q:Exit→Act→World→Prop} {L:Fr} {a:Act} {w0 w:World} {M:Mem} {H:List Ent}
end
section
variable {α:Type} {P:Program} {ops:Array Oper} {n:Nat} {Q:Exit→Act→World→Prop} {L:Fr} {a:Act} {w0 w:World} {M:Mem} {H:List Ent} {sz:Nat} {f:α→Dat}
theorem take_patch {β:Type} (cl vs:List β) (a s N:Nat) (hv:vs.length=s) (h1:a+s≤N) (h2:N≤cl.length): (cl.take a++vs++cl.drop (a+s)).take N=(cl.take N).take a++(vs++(cl.take N).drop (a+s)):=by
 have hl: (cl.take a).length=a:=by rw[List.length_take];omega
 have e1: (cl.take a).take N=cl.take a:=List.take_of_length_le (by omega)
 have e2:vs.take (N-a)=vs:=List.take_of_length_le (by omega)
 have e3: (cl.take N).take a=cl.take a:=by rw[List.take_take,Nat.min_eq_left (by omega)]
 have e4: (cl.drop (a+s)).take (N-a-s)=(cl.take N).drop (a+s):=by rw[List.drop_take,Nat.sub_sub]
 rw[List.append_assoc,List.take_append,List.take_append,hl,hv,e1,e2,e3,e4]
theorem W_rowstoreN {o:Oper} {rest:List Oper} {t e:TypeId} {x y:Operand} {it:Int} {m cap g:Nat} {v0:Value} {d:List α} {xv x0:α} {cs vs:Lv} (hf:Frm n L a dd) (hp:Hp w0 M (.row e sz v0 d.length cs::H) w) (hv0:v0=.slice (some ⟨g,0,none⟩) m cap)
 (hw:bv ops L o=some true) (hr:bX L o=true) (hd:o.dst=none) (ho:o.op=.store t x y) (hx:ev L x=.pointer (some ((⟨g,0,none⟩:Addr).add (it.toNat*sz)))) (hy:ev L y=.agg vs.toArray) (hv:Rep M (f xv) vs) (hs:szIs P t sz=true) (hfs: ∀x,Szd sz (f x)) (hg:aq d it=some x0)
 (hcs:au M (d.map f) cs) (hk: ∀cs' w',Hp w0 M (.row e sz v0 (d.set it.toNat xv).length cs'::H) w'→au M ((d.set it.toNat xv).map f) cs'→∀a',Frm n L a' dd→wpList P ops Q rest a' w'):wpList P ops Q (o::rest) a w:=by
 have hlen:=au.len (jt hfs) hcs
 rw[List.length_map] at hlen
 have hvl:vs.length=sz:=hfs xv M vs hv
 have hlt:it.toNat<d.length:=by have:=lY hg;have:=lZ hg;omega
 have hmul: (it.toNat+1)*sz≤d.length*sz:=Nat.mul_le_mul_right _ hlt
 rw[Nat.add_mul,Nat.one_mul] at hmul
 have hseq:au M ((d.set it.toNat xv).map f) (cs.take (it.toNat*sz)++(vs++cs.drop ((it.toNat+1)*sz))):=by
  rw[List.set_eq_take_append_cons_drop,if_pos hlt,List.map_append,List.map_cons]
  refine au.append ?_ ⟨vs,_,rfl,hv,?_⟩
  ·rw[List.map_take]
   exact au.takeD _ (jt hfs) hcs
  rw[List.map_drop]
  exact au.dropD _ (jt hfs) hcs
 rcases hp.rowObj with⟨h1,h2,h3,h4⟩|⟨g',cap',cur,h1,h2,h3,h4,h5,h6,h7⟩
 ·rw[h1] at hv0;cases hv0
 rw[h1] at hv0;cases hv0
 have hcm:d.length*sz≤cap*sz:=Nat.mul_le_mul_right _ h2
 rw[Addr.add_lit,Nat.zero_add] at hx
 have h8:=h7.setCells vs (it.toNat*sz)
 have hrun:=run_storeCells_cells (P:=P) g (it.toNat*sz) vs 0 w
  (λi hi=>by
   rw[Nat.add_zero,h7.ownCell 0 rfl]
   simp
   omega)
  (λi _=>by
   rw[Nat.add_zero]
   exact h7.ownFrozen 0 rfl _ (by omega)) (Rep.one _ _ hv)
 rw[Nat.add_zero] at hrun
 refine xy hf hw hr hd ?_ (hk (cs.take (it.toNat*sz)++(vs++cs.drop ((it.toNat+1)*sz))) (w.setCells g (it.toNat*sz) vs) ?_ hseq)
 ·unfold execOp
  simp only[ho,hx,hy,Instr.storeAt,Instr.sureAddr,Sem.run_bind,Sem.run_pure,Result.andThen_ok,storeVar,Value.cells,ic hs]
  simp only[List.size_toArray,hvl,ne_eq,not_true_eq_false,if_false]
  simpa using congrArg (λr=>Result.andThen r _) hrun
 rw[List.length_set,h1]
 refine h8.objRow h2 h3 (by rw[zo];exact h4) ?_ ?_
 ·rw[wF _ _ _ (by omega),hvl,←h5]
  have e1:it.toNat*sz+sz=(it.toNat+1)*sz:=by rw[Nat.add_mul,Nat.one_mul]
  rw[e1,List.append_assoc]
  rw[←List.append_assoc,←e1]
  exact take_patch _ _ _ _ _ hvl (by omega) (by have h10:cur.toList.length=cur.size:=Array.length_toList;rw[h10];exact Nat.le_trans hcm h4.1)
 rw[List.length_append,List.length_append,List.length_take,List.length_drop,h6,hvl,Nat.min_eq_left (by omega)]
 have h9: (it.toNat+1)*sz=it.toNat*sz+sz:=by rw[Nat.add_mul,Nat.one_mul]
 omega
end
end Go.Vc
namespace Go.Vc
open Go Go.RowKit
variable {dd:List Deferred}
inductive Plan
 |done
 |quiet (k:Nat) (p:Plan)
 |alt (k:Nat) (p q:Plan)
 |none
def barB (md:Region.Mode) (ops:Array Oper) (listed:Array Bool):Bool:=(Region.ready md ops listed).all λj=>match ops[j]? with|some o=>(List.range listed.size).all λk=> !listed.getD k false||o.after.toList.any λe=>Region.binds md e&&Nat.beq e.on k|none=>true
def tailB (md:Region.Mode) (ops:Array Oper):List Nat→Array Bool→Bool|[],listed=>(Region.ready md ops listed).isEmpty|k::r,listed=>decide (k<ops.size)&&decide (Region.ready md ops listed=[k])&&tailB md ops r (listed.setIfInBounds k true)
section
variable {P:Program} {ops:Array Oper} {md:Region.Mode} {Q:Exit→Act→World→Prop} {I:Type} {Cl:I→World→Prop}
def Plan.ks:Plan→List Nat|.alt k _ q=>k::q.ks|_=>[]
def Plan.ok (md:Region.Mode) (ops:Array Oper) (ks:List Nat):Plan→Bool→Nat→Array Bool→Bool
 |.done,b,n,listed=>b&&barB md ops listed&&tailB md ops ks listed&&Nat.beq n 0
 |.quiet k p,b,n,listed=>match n with
  |0=>false
  |n+1=>b&&decide (k<ops.size)&& (Region.ready md ops listed).contains k&&Region.free md ops listed k&&p.ok md ops ks true n (listed.setIfInBounds k true)
 |.alt k p q,b,n,listed=>match n with
  |0=>false
  |m+1=>decide (k<ops.size)&& (!b||decide (Region.ready md ops listed=k::q.ks))&&p.ok md ops ks true m (listed.setIfInBounds k true)&&q.ok md ops ks false (m+1) listed
 |.none,b,_,_=> !b
end
section
variable {P:Program} {l:List Oper} {ks:List Nat} {n:Nat} {Q:Exit→Act→World→Prop} {L:Fr} {a:Act} {w0 w:World} {M:Mem} {Hr:List Ent} {i:Mem×List Ent}
end
end Go.Vc
end
section
namespace Go.Proofs.YtkmbfmdhoeibhaaGreat
open Go Go.Vc Go.RowKit
structure bz where
 aA:Int
 so:Bool
 dV:Int
 be:Bs
 bu:List bz
 bU:List Bs
abbrev _root_.Cz := List bz
mutual def aw:bz→Dat|⟨x0,x1,x2,x3,x4,x5⟩=>.struct [(Dat.int .i8) x0,Dat.bool x1,(Dat.int .i64) x2,Dat.str x3,.list 6 (vi x4),(eL 1 Dat.str) x5] def vi:Cz→List Dat|[]=>[]|x::r=>aw x::vi r end
theorem zu: ∀l:Cz,vi l=l.map aw
 |[]=>by simp[vi]
 |x::r=>by simp[vi,zu r]
theorem bP (x:bz):aw x=.struct [(Dat.int .i8) x.aA,Dat.bool x.so,(Dat.int .i64) x.dV,Dat.str x.be,(eL 6 aw) x.bu,(eL 1 Dat.str) x.bU]:=by
 cases x
 simp[aw,eL,zu]
structure bZ where
 aA:Int
 be:Bs
 dV:Int
 aE:Bs
 dQ:Bs
 fL:List bZ
abbrev _root_.CA := List bZ
mutual def aN:bZ→Dat|⟨x0,x1,x2,x3,x4,x5⟩=>.struct [(Dat.int .i8) x0,Dat.str x1,(Dat.int .i64) x2,Dat.str x3,Dat.str x4,.list 6 (vk x5)] def vk:CA→List Dat|[]=>[]|x::r=>aN x::vk r end
theorem zw: ∀l:CA,vk l=l.map aN
 |[]=>by simp[vk]
 |x::r=>by simp[vk,zw r]
theorem bK (x:bZ):aN x=.struct [(Dat.int .i8) x.aA,Dat.str x.be,(Dat.int .i64) x.dV,Dat.str x.aE,Dat.str x.dQ,(eL 6 aN) x.fL]:=by
 cases x
 simp[aN,eL,zw]
structure wO where
 aE:Bs
 kv:Bool
 Cm:Bool
 cQ:bz
 cz:List bz
abbrev _root_.CC := List wO
def gI:wO→Dat|⟨x0,x1,x2,x3,x4⟩=>.struct [Dat.str x0,Dat.bool x1,Dat.bool x2,aw x3,(eL 6 aw) x4]
theorem jT (x:wO):gI x=.struct [Dat.str x.aE,Dat.bool x.kv,Dat.bool x.Cm,aw x.cQ,(eL 6 aw) x.cz]:=by
 cases x
 simp[gI,eL]
structure cy where
 aE:Bs
 aA:Int
 fA:bZ
 fB:bZ
 fL:List cy
abbrev _root_.Cw := List cy
mutual def bb:cy→Dat|⟨x0,x1,x2,x3,x4⟩=>.struct [Dat.str x0,(Dat.int .i8) x1,aN x2,aN x3,.list 15 (vj x4)] def vj:Cw→List Dat|[]=>[]|x::r=>bb x::vj r end
theorem zv: ∀l:Cw,vj l=l.map bb
 |[]=>by simp[vj]
 |x::r=>by simp[vj,zv r]
theorem iK (x:cy):bb x=.struct [Dat.str x.aE,(Dat.int .i8) x.aA,aN x.fA,aN x.fB,(eL 15 bb) x.fL]:=by
 cases x
 simp[bb,eL,zv]
structure TN0 where
 aE:Bs
 fE:bZ
def dJ:TN0→Dat|⟨x0,x1⟩=>.struct [Dat.str x0,aN x1]
theorem iM (x:TN0):dJ x=.struct [Dat.str x.aE,aN x.fE]:=by
 cases x
 simp[dJ,eL]
structure TF0 where
 aE:Bs
 ef:Bs
 fE:bZ
def jf:TF0→Dat|⟨x0,x1,x2⟩=>.struct [Dat.str x0,Dat.str x1,aN x2]
theorem jS (x:TF0):jf x=.struct [Dat.str x.aE,Dat.str x.ef,aN x.fE]:=by
 cases x
 simp[jf,eL]
mutual
structure wl where
 ci:Bs
 bB:Bs
 ef:Bs
 bk:List TN0
 cR:List Bs
 bV:Bool
 cO:List cI
structure cI where
 bQ:List wO
 dL:List cy
 eR:List wl
 bM:List TF0
end
mutual def cg:wl→Dat|⟨x0,x1,x2,x3,x4,x5,x6⟩=>.struct [Dat.str x0,Dat.str x1,Dat.str x2,(eL 7 dJ) x3,(eL 1 Dat.str) x4,Dat.bool x5,.list 4 (ve x6)] def vg:List wl→List Dat|[]=>[]|x::r=>cg x::vg r def ba:cI→Dat|⟨x0,x1,x2,x3⟩=>.struct [(eL 10 gI) x0,(eL 15 bb) x1,.list 7 (vg x2),(eL 8 jf) x3] def ve:List cI→List Dat|[]=>[]|x::r=>ba x::ve r end
theorem vh: ∀l:List wl,vg l=l.map cg
 |[]=>by simp[vg]
 |x::r=>by simp[vg,vh r]
theorem vf: ∀l:List cI,ve l=l.map ba
 |[]=>by simp[ve]
 |x::r=>by simp[ve,vf r]
theorem gu (x:wl):cg x=.struct [Dat.str x.ci,Dat.str x.bB,Dat.str x.ef,(eL 7 dJ) x.bk,(eL 1 Dat.str) x.cR,Dat.bool x.bV,(eL 4 ba) x.cO]:=by
 cases x
 simp[cg,eL,vh,vf]
theorem gr (x:cI):ba x=.struct [(eL 10 gI) x.bQ,(eL 15 bb) x.dL,(eL 7 cg) x.eR,(eL 8 jf) x.bM]:=by
 cases x
 simp[ba,eL,vh,vf]
structure aG where
 aE:Bs
 dw:Bool
 fV:bz
abbrev _root_.Cp := List aG
def aj:aG→Dat|⟨x0,x1,x2⟩=>.struct [Dat.str x0,Dat.bool x1,aw x2]
theorem du (x:aG):aj x=.struct [Dat.str x.aE,Dat.bool x.dw,aw x.fV]:=by
 cases x
 simp[aj,eL]
structure gK where
 ci:Bs
 bB:Bs
 bm:Bs
 bk:List aG
 bV:Bool
 bA:List Bs
abbrev _root_.CB := List gK
def aK:gK→Dat|⟨x0,x1,x2,x3,x4,x5⟩=>.struct [Dat.str x0,Dat.str x1,Dat.str x2,(eL 8 aj) x3,Dat.bool x4,(eL 1 Dat.str) x5]
theorem eD (x:gK):aK x=.struct [Dat.str x.ci,Dat.str x.bB,Dat.str x.bm,(eL 8 aj) x.bk,Dat.bool x.bV,(eL 1 Dat.str) x.bA]:=by
 cases x
 simp[aK,eL]
structure gH where
 aR:List gK
 cJ:List gK
 cM:List gK
 bM:List aG
 be:Bs
 bG:List aG
 oY:Int
 cm:Int
def gd:gH→Dat|⟨x0,x1,x2,x3,x4,x5,x6,x7⟩=>.struct [(eL 6 aK) x0,(eL 6 aK) x1,(eL 6 aK) x2,(eL 8 aj) x3,Dat.str x4,(eL 8 aj) x5,(Dat.int .i64) x6,(Dat.int .i8) x7]
theorem lC (x:gH):gd x=.struct [(eL 6 aK) x.aR,(eL 6 aK) x.cJ,(eL 6 aK) x.cM,(eL 8 aj) x.bM,Dat.str x.be,(eL 8 aj) x.bG,(Dat.int .i64) x.oY,(Dat.int .i8) x.cm]:=by
 cases x
 simp[gd,eL]
structure cb where
 gf:Int
 cY:Bs
 fT:cI
 bG:List TN0
abbrev _root_.Ct := List cb
def aT:cb→Dat|⟨x0,x1,x2,x3⟩=>.struct [(Dat.int .i64) x0,Dat.str x1,ba x2,(eL 7 dJ) x3]
theorem sU (x:cb):aT x=.struct [(Dat.int .i64) x.gf,Dat.str x.cY,ba x.fT,(eL 7 dJ) x.bG]:=by
 cases x
 simp[aT,eL]
structure ng where
 cK:Int
 aE:Bs
 deriving DecidableEq,Inhabited
abbrev _root_.Cy := List ng
def dv:ng→Dat|⟨x0,x1⟩=>.struct [(Dat.int .i64) x0,Dat.str x1]
theorem xA (x:ng):dv x=.struct [(Dat.int .i64) x.cK,Dat.str x.aE]:=by
 cases x
 simp[dv,eL]
structure cj where
 ci:Bs
 cK:Int
 fR:wl
 iD:List ng
 ju:List Bs
abbrev _root_.Cs := List cj
def aS:cj→Dat|⟨x0,x1,x2,x3,x4⟩=>.struct [Dat.str x0,(Dat.int .i64) x1,cg x2,(eL 2 dv) x3,(eL 1 Dat.str) x4]
theorem sZ (x:cj):aS x=.struct [Dat.str x.ci,(Dat.int .i64) x.cK,cg x.fR,(eL 2 dv) x.iD,(eL 1 Dat.str) x.ju]:=by
 cases x
 simp[aS,eL]
structure ey where
 aV:List cb
 aU:List cj
def oc:ey→Dat|⟨x0,x1⟩=>.struct [(eL 7 aT) x0,(eL 11 aS) x1]
theorem xC (x:ey):oc x=.struct [(eL 7 aT) x.aV,(eL 11 aS) x.aU]:=by
 cases x
 simp[oc,eL]
structure cV where
 ci:Bs
 aA:Int
 bB:Bs
 bk:List aG
 bV:Bool
 sq:Int
 bI:Bool
 bA:List Bs
abbrev _root_.Cv := List cV
def bi:cV→Dat|⟨x0,x1,x2,x3,x4,x5,x6,x7⟩=>.struct [Dat.str x0,(Dat.int .i8) x1,Dat.str x2,(eL 8 aj) x3,Dat.bool x4,(Dat.int .i64) x5,Dat.bool x6,(eL 1 Dat.str) x7]
theorem xz (x:cV):bi x=.struct [Dat.str x.ci,(Dat.int .i8) x.aA,Dat.str x.bB,(eL 8 aj) x.bk,Dat.bool x.bV,(Dat.int .i64) x.sq,Dat.bool x.bI,(eL 1 Dat.str) x.bA]:=by
 cases x
 simp[bi,eL]
structure Ba where
 gX:Int
 aA:Int
 bm:Bs
 bB:Bs
 bk:List aG
def oe:Ba→Dat|⟨x0,x1,x2,x3,x4⟩=>.struct [(Dat.int .i64) x0,(Dat.int .i8) x1,Dat.str x2,Dat.str x3,(eL 8 aj) x4]
theorem sY (x:Ba):oe x=.struct [(Dat.int .i64) x.gX,(Dat.int .i8) x.aA,Dat.str x.bm,Dat.str x.bB,(eL 8 aj) x.bk]:=by
 cases x
 simp[oe,eL]
structure dq where
 aX:Int
 aJ:Int
 cP:Ba
 bW:Int
 bm:Bs
abbrev _root_.Cx := List dq
def bF:dq→Dat|⟨x0,x1,x2,x3,x4⟩=>.struct [(Dat.int .i64) x0,(Dat.int .i8) x1,oe x2,(Dat.int .i8) x3,Dat.str x4]
theorem xB (x:dq):bF x=.struct [(Dat.int .i64) x.aX,(Dat.int .i8) x.aJ,oe x.cP,(Dat.int .i8) x.bW,Dat.str x.bm]:=by
 cases x
 simp[bF,eL]
structure bH where
 aA:Int
 co:Int
 bI:gH
 ig:ey
 be:Bs
 bG:List aG
 am:List cV
 an:List dq
 aJ:Int
 cm:Int
def xU:bH→Dat|⟨x0,x1,x2,x3,x4,x5,x6,x7,x8,x9⟩=>.struct [(Dat.int .i8) x0,(Dat.int .i64) x1,gd x2,oc x3,Dat.str x4,(eL 8 aj) x5,(eL 8 bi) x6,(eL 9 bF) x7,(Dat.int .i8) x8,(Dat.int .i8) x9]
theorem Bo (x:bH):xU x=.struct [(Dat.int .i8) x.aA,(Dat.int .i64) x.co,gd x.bI,oc x.ig,Dat.str x.be,(eL 8 aj) x.bG,(eL 8 bi) x.am,(eL 9 bF) x.an,(Dat.int .i8) x.aJ,(Dat.int .i8) x.cm]:=by
 cases x
 simp[xU,eL]
structure TE0 where
 Ci:Bool
 Co:Bool
 bm:Bs
 deriving DecidableEq,Inhabited
def xT:TE0→Dat|⟨x0,x1,x2⟩=>.struct [Dat.bool x0,Dat.bool x1,Dat.str x2]
theorem Bm (x:TE0):xT x=.struct [Dat.bool x.Ci,Dat.bool x.Co,Dat.str x.bm]:=by
 cases x
 simp[xT,eL]
structure uW where
 aE:Bs
 aA:Int
 xV:Bool
 deriving DecidableEq,Inhabited
def sV:uW→Dat|⟨x0,x1,x2⟩=>.struct [Dat.str x0,(Dat.int .i8) x1,Dat.bool x2]
theorem Bn (x:uW):sV x=.struct [Dat.str x.aE,(Dat.int .i8) x.aA,Dat.bool x.xV]:=by
 cases x
 simp[sV,eL]
structure bj where
 change:Int
 phase:Int
 deriving DecidableEq,Inhabited
def iz:bj→Dat|⟨x0,x1⟩=>.struct [(Dat.int .i64) x0,(Dat.int .i8) x1]
theorem vd (x:bj):iz x=.struct [(Dat.int .i64) x.change,(Dat.int .i8) x.phase]:=by
 cases x
 simp[iz,eL]
structure dE where
 done:List Bool
 yes:List Bool
 bad:List Bool
 deriving DecidableEq,Inhabited
def dD:dE→Dat|⟨x0,x1,x2⟩=>.struct [(eL 1 Dat.bool) x0,(eL 1 Dat.bool) x1,(eL 1 Dat.bool) x2]
theorem ni (x:dE):dD x=.struct [(eL 1 Dat.bool) x.done,(eL 1 Dat.bool) x.yes,(eL 1 Dat.bool) x.bad]:=by
 cases x
 simp[dD,eL]
structure ab where
 unknown:Bool
 list:Bool
 v:bz
 most:Int
abbrev _root_.Cr := List ab
def ai:ab→Dat|⟨x0,x1,x2,x3⟩=>.struct [Dat.bool x0,Dat.bool x1,aw x2,(Dat.int .i64) x3]
theorem ie (x:ab):ai x=.struct [Dat.bool x.unknown,Dat.bool x.list,aw x.v,(Dat.int .i64) x.most]:=by
 cases x
 simp[ai,eL]
structure aa where
 out:Bool
 scope:Int
 name:Bs
 deriving DecidableEq,Inhabited
abbrev _root_.Cq := List aa
def ae:aa→Dat|⟨x0,x1,x2⟩=>.struct [Dat.bool x0,(Dat.int .i64) x1,Dat.str x2]
theorem iA (x:aa):ae x=.struct [Dat.bool x.out,(Dat.int .i64) x.scope,Dat.str x.name]:=by
 cases x
 simp[ae,eL]
structure ac where
 out:Bool
 scope:Int
 name:Bs
 deriving DecidableEq,Inhabited
abbrev _root_.Cu := List ac
def ak:ac→Dat|⟨x0,x1,x2⟩=>.struct [Dat.bool x0,(Dat.int .i64) x1,Dat.str x2]
theorem iC (x:ac):ak x=.struct [Dat.bool x.out,(Dat.int .i64) x.scope,Dat.str x.name]:=by
 cases x
 simp[ak,eL]
structure TA0 where
 Cj:Bool
 fK:Int
 Bp:Bool
 deriving DecidableEq,Inhabited
def lV:TA0→Dat|⟨x0,x1,x2⟩=>.struct [Dat.bool x0,(Dat.int .i64) x1,Dat.bool x2]
theorem oX (x:TA0):lV x=.struct [Dat.bool x.Cj,(Dat.int .i64) x.fK,Dat.bool x.Bp]:=by
 cases x
 simp[lV,eL]
abbrev cU:bz:=(⟨(0:Int),(false),(0:Int),([]:Bs),([]:List bz),([]:List Bs)⟩:bz)
abbrev z_TS0:bZ:=(⟨(0:Int),([]:Bs),(0:Int),([]:Bs),([]:Bs),([]:List bZ)⟩:bZ)
abbrev z_TC0:wl:=(⟨([]:Bs),([]:Bs),([]:Bs),([]:List TN0),([]:List Bs),(false),([]:List cI)⟩:wl)
abbrev yK:gK:=(⟨([]:Bs),([]:Bs),([]:Bs),([]:List aG),(false),([]:List Bs)⟩:gK)
abbrev je:gH:=(⟨([]:List gK),([]:List gK),([]:List gK),([]:List aG),([]:Bs),([]:List aG),(0:Int),(0:Int)⟩:gH)
abbrev gG:ey:=(⟨([]:List cb),([]:List cj)⟩:ey)
abbrev yJ:Ba:=(⟨(0:Int),(0:Int),([]:Bs),([]:Bs),([]:List aG)⟩:Ba)
abbrev z_TQ0:uW:=(⟨([]:Bs),(0:Int),(false)⟩:uW)
end Go.Proofs.YtkmbfmdhoeibhaaGreat
end
section
namespace Go.Vc
theorem eY {α:Type} (f:α→Dat) (xs:List α):xs.length≤dszs (xs.map f):=by have:=Bk (xs.map f);simpa using this
theorem bf {α:Type} {f:α→Dat} {c:Nat} (h: ∀x,c≤dsz (f x)): ∀ {xs:List α},c*xs.length≤dszs (xs.map f)
 |[]=>by simp
 |x::xs=>by have:=h x;have:=bf h (xs:=xs);simp only[List.map_cons,dszs,List.length_cons];rw[Nat.mul_add];omega
end Go.Vc
namespace Go.Proofs.YtkmbfmdhoeibhaaGreat
open Go Go.Vc Go.RowKit
instance:Sz bz:=⟨aw,λx=>dsz (aw x)=7+x.be.length+dszs (x.bu.map aw)+dszs (x.bU.map Dat.str)∧7*x.bu.length≤dszs (x.bu.map aw)∧x.bU.length≤dszs (x.bU.map Dat.str),λx=>⟨by simp only[bP,dsz,dszs,eL]<;>omega,bf λy=>by rw[bP];simp only[dsz,dszs,eL]<;>omega,eY _ _⟩⟩
instance:Sz bZ:=⟨aN,λx=>dsz (aN x)=7+x.be.length+x.aE.length+x.dQ.length+dszs (x.fL.map aN)∧7*x.fL.length≤dszs (x.fL.map aN),λx=>⟨by simp only[bK,dsz,dszs,eL]<;>omega,bf λy=>by rw[bK];simp only[dsz,dszs,eL]<;>omega⟩⟩
instance:Sz wO:=⟨gI,λx=>dsz (gI x)=5+x.aE.length+dsz (aw x.cQ)+dszs (x.cz.map aw)∧dsz (aw x.cQ)=7+x.cQ.be.length+dszs (x.cQ.bu.map aw)+dszs (x.cQ.bU.map Dat.str)∧7*x.cQ.bu.length≤dszs (x.cQ.bu.map aw)∧x.cQ.bU.length≤dszs (x.cQ.bU.map Dat.str)∧7*x.cz.length≤dszs (x.cz.map aw),λx=>⟨by simp only[jT,dsz,dszs,eL]<;>omega,by simp only[bP,dsz,dszs,eL]<;>omega,bf λy=>by rw[bP];simp only[dsz,dszs,eL]<;>omega,eY _ _,bf λy=>by rw[bP];simp only[dsz,dszs,eL]<;>omega⟩⟩
instance:Sz cy:=⟨bb,λx=>dsz (bb x)=4+x.aE.length+dsz (aN x.fA)+dsz (aN x.fB)+dszs (x.fL.map bb)∧dsz (aN x.fA)=7+x.fA.be.length+x.fA.aE.length+x.fA.dQ.length+dszs (x.fA.fL.map aN)∧dsz (aN x.fB)=7+x.fB.be.length+x.fB.aE.length+x.fB.dQ.length+dszs (x.fB.fL.map aN)∧7*x.fA.fL.length≤dszs (x.fA.fL.map aN)∧7*x.fB.fL.length≤dszs (x.fB.fL.map aN)∧18*x.fL.length≤dszs (x.fL.map bb),λx=>⟨by simp only[iK,dsz,dszs,eL]<;>omega,by simp only[bK,dsz,dszs,eL]<;>omega,by simp only[bK,dsz,dszs,eL]<;>omega,bf λy=>by rw[bK];simp only[dsz,dszs,eL]<;>omega,bf λy=>by rw[bK];simp only[dsz,dszs,eL]<;>omega,bf λy=>by simp only[iK,bK,bK,dsz,dszs,eL]<;>omega⟩⟩
instance:Sz TN0:=⟨dJ,λx=>dsz (dJ x)=2+x.aE.length+dsz (aN x.fE)∧dsz (aN x.fE)=7+x.fE.be.length+x.fE.aE.length+x.fE.dQ.length+dszs (x.fE.fL.map aN)∧7*x.fE.fL.length≤dszs (x.fE.fL.map aN),λx=>⟨by simp only[iM,dsz,dszs,eL]<;>omega,by simp only[bK,dsz,dszs,eL]<;>omega,bf λy=>by rw[bK];simp only[dsz,dszs,eL]<;>omega⟩⟩
instance:Sz TF0:=⟨jf,λx=>dsz (jf x)=3+x.aE.length+x.ef.length+dsz (aN x.fE)∧dsz (aN x.fE)=7+x.fE.be.length+x.fE.aE.length+x.fE.dQ.length+dszs (x.fE.fL.map aN)∧7*x.fE.fL.length≤dszs (x.fE.fL.map aN),λx=>⟨by simp only[jS,dsz,dszs,eL]<;>omega,by simp only[bK,dsz,dszs,eL]<;>omega,bf λy=>by rw[bK];simp only[dsz,dszs,eL]<;>omega⟩⟩
instance:Sz wl:=⟨cg,λx=>dsz (cg x)=8+x.ci.length+x.bB.length+x.ef.length+dszs (x.bk.map dJ)+dszs (x.cR.map Dat.str)+dszs (x.cO.map ba)∧9*x.bk.length≤dszs (x.bk.map dJ)∧x.cR.length≤dszs (x.cR.map Dat.str)∧5*x.cO.length≤dszs (x.cO.map ba),λx=>⟨by simp only[gu,dsz,dszs,eL]<;>omega,bf λy=>by simp only[iM,bK,dsz,dszs,eL]<;>omega,eY _ _,bf λy=>by rw[gr];simp only[dsz,dszs,eL]<;>omega⟩⟩
instance:Sz cI:=⟨ba,λx=>dsz (ba x)=5+dszs (x.bQ.map gI)+dszs (x.dL.map bb)+dszs (x.eR.map cg)+dszs (x.bM.map jf)∧12*x.bQ.length≤dszs (x.bQ.map gI)∧18*x.dL.length≤dszs (x.dL.map bb)∧8*x.eR.length≤dszs (x.eR.map cg)∧10*x.bM.length≤dszs (x.bM.map jf),λx=>⟨by simp only[gr,dsz,dszs,eL]<;>omega,bf λy=>by simp only[jT,bP,dsz,dszs,eL]<;>omega,bf λy=>by simp only[iK,bK,bK,dsz,dszs,eL]<;>omega,bf λy=>by rw[gu];simp only[dsz,dszs,eL]<;>omega,bf λy=>by simp only[jS,bK,dsz,dszs,eL]<;>omega⟩⟩
instance:Sz aG:=⟨aj,λx=>dsz (aj x)=3+x.aE.length+dsz (aw x.fV)∧dsz (aw x.fV)=7+x.fV.be.length+dszs (x.fV.bu.map aw)+dszs (x.fV.bU.map Dat.str)∧7*x.fV.bu.length≤dszs (x.fV.bu.map aw)∧x.fV.bU.length≤dszs (x.fV.bU.map Dat.str),λx=>⟨by simp only[du,dsz,dszs,eL]<;>omega,by simp only[bP,dsz,dszs,eL]<;>omega,bf λy=>by rw[bP];simp only[dsz,dszs,eL]<;>omega,eY _ _⟩⟩
instance:Sz gK:=⟨aK,λx=>dsz (aK x)=7+x.ci.length+x.bB.length+x.bm.length+dszs (x.bk.map aj)+dszs (x.bA.map Dat.str)∧10*x.bk.length≤dszs (x.bk.map aj)∧x.bA.length≤dszs (x.bA.map Dat.str),λx=>⟨by simp only[eD,dsz,dszs,eL]<;>omega,bf λy=>by simp only[du,bP,dsz,dszs,eL]<;>omega,eY _ _⟩⟩
instance:Sz gH:=⟨gd,λx=>dsz (gd x)=9+dszs (x.aR.map aK)+dszs (x.cJ.map aK)+dszs (x.cM.map aK)+dszs (x.bM.map aj)+x.be.length+dszs (x.bG.map aj)∧7*x.aR.length≤dszs (x.aR.map aK)∧7*x.cJ.length≤dszs (x.cJ.map aK)∧7*x.cM.length≤dszs (x.cM.map aK)∧10*x.bM.length≤dszs (x.bM.map aj)∧10*x.bG.length≤dszs (x.bG.map aj),λx=>⟨by simp only[lC,dsz,dszs,eL]<;>omega,bf λy=>by rw[eD];simp only[dsz,dszs,eL]<;>omega,bf λy=>by rw[eD];simp only[dsz,dszs,eL]<;>omega,bf λy=>by rw[eD];simp only[dsz,dszs,eL]<;>omega,bf λy=>by simp only[du,bP,dsz,dszs,eL]<;>omega,bf λy=>by simp only[du,bP,dsz,dszs,eL]<;>omega⟩⟩
instance:Sz cb:=⟨aT,λx=>dsz (aT x)=4+x.cY.length+dsz (ba x.fT)+dszs (x.bG.map dJ)∧dsz (ba x.fT)=5+dszs (x.fT.bQ.map gI)+dszs (x.fT.dL.map bb)+dszs (x.fT.eR.map cg)+dszs (x.fT.bM.map jf)∧12*x.fT.bQ.length≤dszs (x.fT.bQ.map gI)∧18*x.fT.dL.length≤dszs (x.fT.dL.map bb)∧8*x.fT.eR.length≤dszs (x.fT.eR.map cg)∧10*x.fT.bM.length≤dszs (x.fT.bM.map jf)∧9*x.bG.length≤dszs (x.bG.map dJ),λx=>⟨by simp only[sU,dsz,dszs,eL]<;>omega,by simp only[gr,dsz,dszs,eL]<;>omega,bf λy=>by simp only[jT,bP,dsz,dszs,eL]<;>omega,bf λy=>by simp only[iK,bK,bK,dsz,dszs,eL]<;>omega,bf λy=>by rw[gu];simp only[dsz,dszs,eL]<;>omega,bf λy=>by simp only[jS,bK,dsz,dszs,eL]<;>omega,bf λy=>by simp only[iM,bK,dsz,dszs,eL]<;>omega⟩⟩
instance:Sz ng:=⟨dv,λx=>dsz (dv x)=3+x.aE.length,λx=>by simp only[xA,dsz,dszs,eL]<;>omega⟩
instance:Sz cj:=⟨aS,λx=>dsz (aS x)=5+x.ci.length+dsz (cg x.fR)+dszs (x.iD.map dv)+dszs (x.ju.map Dat.str)∧dsz (cg x.fR)=8+x.fR.ci.length+x.fR.bB.length+x.fR.ef.length+dszs (x.fR.bk.map dJ)+dszs (x.fR.cR.map Dat.str)+dszs (x.fR.cO.map ba)∧9*x.fR.bk.length≤dszs (x.fR.bk.map dJ)∧x.fR.cR.length≤dszs (x.fR.cR.map Dat.str)∧5*x.fR.cO.length≤dszs (x.fR.cO.map ba)∧3*x.iD.length≤dszs (x.iD.map dv)∧x.ju.length≤dszs (x.ju.map Dat.str),λx=>⟨by simp only[sZ,dsz,dszs,eL]<;>omega,by simp only[gu,dsz,dszs,eL]<;>omega,bf λy=>by simp only[iM,bK,dsz,dszs,eL]<;>omega,eY _ _,bf λy=>by rw[gr];simp only[dsz,dszs,eL]<;>omega,bf λy=>by rw[xA];simp only[dsz,dszs,eL]<;>omega,eY _ _⟩⟩
instance:Sz ey:=⟨oc,λx=>dsz (oc x)=3+dszs (x.aV.map aT)+dszs (x.aU.map aS)∧9*x.aV.length≤dszs (x.aV.map aT)∧13*x.aU.length≤dszs (x.aU.map aS),λx=>⟨by simp only[xC,dsz,dszs,eL]<;>omega,bf λy=>by simp only[sU,gr,dsz,dszs,eL]<;>omega,bf λy=>by simp only[sZ,gu,dsz,dszs,eL]<;>omega⟩⟩
instance:Sz cV:=⟨bi,λx=>dsz (bi x)=9+x.ci.length+x.bB.length+dszs (x.bk.map aj)+dszs (x.bA.map Dat.str)∧10*x.bk.length≤dszs (x.bk.map aj)∧x.bA.length≤dszs (x.bA.map Dat.str),λx=>⟨by simp only[xz,dsz,dszs,eL]<;>omega,bf λy=>by simp only[du,bP,dsz,dszs,eL]<;>omega,eY _ _⟩⟩
instance:Sz Ba:=⟨oe,λx=>dsz (oe x)=6+x.bm.length+x.bB.length+dszs (x.bk.map aj)∧10*x.bk.length≤dszs (x.bk.map aj),λx=>⟨by simp only[sY,dsz,dszs,eL]<;>omega,bf λy=>by simp only[du,bP,dsz,dszs,eL]<;>omega⟩⟩
instance:Sz dq:=⟨bF,λx=>dsz (bF x)=5+dsz (oe x.cP)+x.bm.length∧dsz (oe x.cP)=6+x.cP.bm.length+x.cP.bB.length+dszs (x.cP.bk.map aj)∧10*x.cP.bk.length≤dszs (x.cP.bk.map aj),λx=>⟨by simp only[xB,dsz,dszs,eL]<;>omega,by simp only[sY,dsz,dszs,eL]<;>omega,bf λy=>by simp only[du,bP,dsz,dszs,eL]<;>omega⟩⟩
instance:Sz bH:=⟨xU,λx=>dsz (xU x)=9+dsz (gd x.bI)+dsz (oc x.ig)+x.be.length+dszs (x.bG.map aj)+dszs (x.am.map bi)+dszs (x.an.map bF)∧dsz (gd x.bI)=9+dszs (x.bI.aR.map aK)+dszs (x.bI.cJ.map aK)+dszs (x.bI.cM.map aK)+dszs (x.bI.bM.map aj)+x.bI.be.length+dszs (x.bI.bG.map aj)∧dsz (oc x.ig)=3+dszs (x.ig.aV.map aT)+dszs (x.ig.aU.map aS)∧7*x.bI.aR.length≤dszs (x.bI.aR.map aK)∧7*x.bI.cJ.length≤dszs (x.bI.cJ.map aK)∧7*x.bI.cM.length≤dszs (x.bI.cM.map aK)∧10*x.bI.bM.length≤dszs (x.bI.bM.map aj)∧10*x.bI.bG.length≤dszs (x.bI.bG.map aj)∧9*x.ig.aV.length≤dszs (x.ig.aV.map aT)∧13*x.ig.aU.length≤dszs (x.ig.aU.map aS)∧10*x.bG.length≤dszs (x.bG.map aj)∧9*x.am.length≤dszs (x.am.map bi)∧11*x.an.length≤dszs (x.an.map bF),λx=>⟨by simp only[Bo,dsz,dszs,eL]<;>omega,by simp only[lC,dsz,dszs,eL]<;>omega,by simp only[xC,dsz,dszs,eL]<;>omega,bf λy=>by rw[eD];simp only[dsz,dszs,eL]<;>omega,bf λy=>by rw[eD];simp only[dsz,dszs,eL]<;>omega,bf λy=>by rw[eD];simp only[dsz,dszs,eL]<;>omega,bf λy=>by simp only[du,bP,dsz,dszs,eL]<;>omega,bf λy=>by simp only[du,bP,dsz,dszs,eL]<;>omega,bf λy=>by simp only[sU,gr,dsz,dszs,eL]<;>omega,bf λy=>by simp only[sZ,gu,dsz,dszs,eL]<;>omega,bf λy=>by simp only[du,bP,dsz,dszs,eL]<;>omega,bf λy=>by rw[xz];simp only[dsz,dszs,eL]<;>omega,bf λy=>by simp only[xB,sY,dsz,dszs,eL]<;>omega⟩⟩
instance:Sz TE0:=⟨xT,λx=>dsz (xT x)=4+x.bm.length,λx=>by simp only[Bm,dsz,dszs,eL]<;>omega⟩
instance:Sz uW:=⟨sV,λx=>dsz (sV x)=4+x.aE.length,λx=>by simp only[Bn,dsz,dszs,eL]<;>omega⟩
instance:Sz bj:=⟨iz,λx=>dsz (iz x)=3,λx=>by simp only[vd,dsz,dszs,eL]<;>omega⟩
instance:Sz dE:=⟨dD,λx=>dsz (dD x)=4+dszs (x.done.map Dat.bool)+dszs (x.yes.map Dat.bool)+dszs (x.bad.map Dat.bool)∧x.done.length≤dszs (x.done.map Dat.bool)∧x.yes.length≤dszs (x.yes.map Dat.bool)∧x.bad.length≤dszs (x.bad.map Dat.bool),λx=>⟨by simp only[ni,dsz,dszs,eL]<;>omega,eY _ _,eY _ _,eY _ _⟩⟩
instance:Sz ab:=⟨ai,λx=>dsz (ai x)=4+dsz (aw x.v)∧dsz (aw x.v)=7+x.v.be.length+dszs (x.v.bu.map aw)+dszs (x.v.bU.map Dat.str)∧7*x.v.bu.length≤dszs (x.v.bu.map aw)∧x.v.bU.length≤dszs (x.v.bU.map Dat.str),λx=>⟨by simp only[ie,dsz,dszs,eL]<;>omega,by simp only[bP,dsz,dszs,eL]<;>omega,bf λy=>by rw[bP];simp only[dsz,dszs,eL]<;>omega,eY _ _⟩⟩
instance:Sz aa:=⟨ae,λx=>dsz (ae x)=4+x.name.length,λx=>by simp only[iA,dsz,dszs,eL]<;>omega⟩
instance:Sz ac:=⟨ak,λx=>dsz (ak x)=4+x.name.length,λx=>by simp only[iC,dsz,dszs,eL]<;>omega⟩
instance:Sz TA0:=⟨lV,λx=>dsz (lV x)=4,λx=>by simp only[oX,dsz,dszs,eL]<;>omega⟩
end Go.Proofs.YtkmbfmdhoeibhaaGreat
end
section
namespace Go.Vc
open Go Go.RowKit
variable {dd:List Deferred}
def fen:Option Nat→Fence|none=>Fence.wide|some l=>Fence.wide.inRound l
section
variable {P:Program} {ops:Array Oper} {Q:Exit→Act→World→Prop} {ro:Option Nat} {a:Act} {w:World}
theorem yO: (fen ro).round=ro:=by cases ro<;>rfl
theorem yN (f:FuncId): (fen ro).fn f:=by cases ro<;>trivial
theorem sr: (fen ro).depth.isSome=true→1≤0:=by cases ro<;>intro h<;>cases h
theorem calls_in {n:Nat} {f:FuncId} {args:Array Value} {R:Ending→World→Prop} (h:Calls P f args w R):CallsIn (fen ro) n P f args w R:=by
 have h1:CallsIn Fence.wide n P f args w R:=callsIn_wide.2 h
 cases ro with
 |none=>exact h1
 |some l=>exact h1
theorem rows_in {n:Nat} {row:String} {args:Array Value} {R:Value→World→Prop} (h:_root_.Go.Rows P row args w R):RowsIn (fen ro) n P row args w R:=by
 have h1:RowsIn Fence.wide n P row args w R:=λc cs _=>let ⟨v,w',r,s⟩:=h c cs; ⟨v,w',r,stepsIn_wide.2 s⟩
 cases ro with
 |none=>exact h1
 |some l=>exact h1
theorem op_in {o:Oper} {K K':Act→World→Prop} (hd: ∀c,o.op≠ .defer c) (hK: ∀a w,K a w→K' a w) (h:o.wp P a w K Q):o.wpIn (fen ro) 0 P a w K' Q:=by
 refine⟨λf _=>yN f,?_⟩
 rw[yO,Oper.semAt_eq ro _ _ hd]
 unfold Oper.wp at h
 generalize (execOp a.eval o).run P w=r at h ⊢
 cases r with
 |ok x w'=>
  cases x with
  |value v=>exact hK _ _ h
  |skip=>exact hK _ _ h
  |defer d=>exact hK _ _ h
  |enter f args=>
   refine⟨sr,calls_in (Calls.mono h λe w'' he=>?_)⟩
   cases e with
   |returned v=>exact hK _ _ he
   |panicked c=>exact he
   |outgrown=>exact he
  |row row args=>exact⟨sr,rows_in (_root_.Go.Rows.mono h λv w'' he=>hK _ _ he)⟩
  |_=>exact h.elim
 |halt x w'=>
  cases x with
  |panic v=>exact h
  |_=>exact h.elim
def noDefer (ops:List Oper):Bool:=ops.all λo=>match o.op with|.defer _=>false|_=>true
theorem td {ops:List Oper} (h:noDefer ops=true) {o:Oper} (ho:o∈ops): ∀c,o.op≠ .defer c:=λc e=>by
 have:=List.all_eq_true.1 h o ho
 rw[e] at this
 cases this
theorem list_in (hQ: ¬LetsOut Q): ∀ (l:List Oper),noDefer l=true→∀ (a:Act) (w:World),wpList P ops Q l a w→wpListIn (fen ro) 0 P ops Q l a w
 |[],_,a,w,h=>h
 |o::l,hd,a,w,h=>by
  have hd':noDefer l=true:=by
   unfold noDefer at hd ⊢
   rw[List.all_cons,Bool.and_eq_true] at hd
   exact hd.2
  simp only[wpList] at h
  simp only[wpListIn]
  split
  ·rename_i hw
   rw[if_pos hw] at h
   rcases h with h|h
   ·exact op_in (td hd (by simp)) (list_in hQ l hd') h
   exact absurd h.2 hQ
  rename_i hw
  rw[if_neg hw] at h
  exact⟨λf _=>yN f,list_in hQ l hd' _ _ h⟩
theorem any_in {md:Region.Mode} (hQ: ¬LetsOut Q) (hd:noDefer ops.toList=true): ∀ (fuel:Nat) (listed:Array Bool) (a:Act) (w:World),wpAny P md ops Q fuel listed a w→wpAnyIn (fen ro) 0 P md ops Q fuel listed a w
 |0,_,_,_,h=>h
 |fuel+1,listed,a,w,h=>by
  refine⟨h.1,λi hi=>?_⟩
  have h2:=h.2 i hi
  unfold wpOp at h2
  unfold wpOpIn
  cases ho:ops[i]? with
  |none=>rw[ho] at h2;exact any_in hQ hd fuel _ a w h2
  |some o=>
   rw[ho] at h2
   dsimp only at h2 ⊢
   split
   ·rename_i hw
    rw[if_pos hw] at h2
    rcases h2 with h2|h2
    ·exact op_in (td hd (by
     have:=Array.mem_of_getElem? ho
     simpa using this)) (any_in hQ hd fuel _) h2
    exact absurd h2.2 hQ
   rename_i hw
   rw[if_neg hw] at h2
   exact⟨λf _=>yN f,any_in hQ hd fuel _ _ _ h2⟩
abbrev _root_.Go.Code.wr (ro:Option Nat) (P:Program) (c:Code) (Q:Exit→Act→World→Prop) (a:Act) (w:World):Prop:=c.wpIn (fen ro) 0 P Q a w
theorem then_out {K:Act→World→Prop} (h: ¬LetsOut Q): ¬LetsOut (Exit.then K Q):=h
theorem block_out {i:Nat} (h: ¬LetsOut Q): ¬LetsOut (Exit.inBlock i Q):=h
theorem RI_out {c:Code} (h:c.wr none P Q a w):c.wp P Q a w:=wpIn_wide.1 h
theorem RI_reg {id:Nat} (hQ: ¬LetsOut Q) (hd:noDefer ops.toList=true) (h:wpList P ops Q ops.toList a w): (Code.region id ops false).wr ro P Q a w:=
 wpIn_region_list (list_in hQ _ hd _ _ h)
theorem RI_draw0 {id:Nat} (hQ: ¬LetsOut Q) (hd:noDefer ops.toList=true) (hm:P.follows .mixedOrders=true)
 (h:wpAny P .any ops Q ops.size (Array.replicate ops.size false) a {w with drawn:=w.drawn+1}): (Code.region id ops true).wr ro P Q a w:=
 wpIn_region_any hm (any_in hQ hd _ _ _ _ h)
theorem RI_seq {x y:Code} (h:x.wr ro P (Exit.then (y.wr ro P Q) Q) a w): (Code.seq x y).wr ro P Q a w:=wpIn_seq h
theorem RI_mono {c:Code} {Q':Exit→Act→World→Prop} (h:c.wr ro P Q a w) (hq: ∀e a w,Q e a w→Q' e a w):c.wr ro P Q' a w:=wpIn_mono h hq
theorem RI_block {id:Nat} {c:Code} (h:c.wr ro P (Exit.inBlock id Q) a w): (Code.block id c).wr ro P Q a w:=wpIn_block h
theorem RI_skip (h:Q .normal a w):Code.skip.wr ro P Q a w:=wpIn_skip h
theorem RI_exit {id:Nat} (h:Q (.exit id) a w): (Code.exit id).wr ro P Q a w:=wpIn_exit h
theorem RI_ret (h:Q .ret a w):Code.ret.wr ro P Q a w:=wpIn_ret h
variable {n:Nat}
theorem RI_cond_t {L:Fr} {c:Operand} {x y:Code} (hf:Frm n L a dd) (hc:ev L c=.bool true) (hh:has L c=true)
 (ht:x.wr ro P Q a w): (Code.cond c x y).wr ro P Q a w:=wpIn_cond_true ((hf.ev hh).trans hc) ht
theorem RI_cond_f {L:Fr} {c:Operand} {x y:Code} (hf:Frm n L a dd) (hc:ev L c=.bool false) (hh:has L c=true)
 (ht:y.wr ro P Q a w): (Code.cond c x y).wr ro P Q a w:=wpIn_cond_false ((hf.ev hh).trans hc) ht
theorem WI_round {L:Fr} {o:Oper} {rest:List Oper} {d:Nat} {l:Nat} {fn:FuncId} {tmps:Array Value} {asg bd:Code} {R:Ending→World→Prop} (hf:Frm n L a dd) (hw:bv ops L o=some true) (hr:bX L o=true)
 (hd:o.dst=some d) (hdn:Nat.blt d n=true) (hdf: ∀c,o.op≠ .defer c) (hx: (execOp (ev L) o).run P w=.ok (.round l fn tmps asg bd) w) (hR:RoundIn Fence.wide 0 P l fn tmps asg bd w R)
 (hk: ∀e w',R e w'→∃v,e=.returned v∧∀a',Frm n ((d,v)::L) a' dd→wpListIn (fen none) 0 P ops Q rest a' w'):wpListIn (fen none) 0 P ops Q (o::rest) a w:=by
 simp only[wpListIn]
 rw[hf.wanted hw,if_pos rfl]
 refine⟨λf _=>yN f,?_⟩
 rw[yO,Oper.semAt_eq none _ _ hdf,hf.exec hr,hx]
 refine⟨sr,RoundIn.mono hR λe w' he=>?_⟩
 obtain⟨v,rfl,h⟩:=hk e w' he
 refine h _ ?_
 rw[hd]
 exact hf.put (by simpa [Nat.blt_eq] using hdn) v
end
inductive Jmp
 |ret
 |exit (id:Nat)
def Jmp.code:Jmp→Code|.ret=>.ret|.exit id=>.exit id
def Jmp.way:Jmp→Exit|.ret=>.ret|.exit id=>.exit id
def iN {σ α β:Type} (Y:σ→α→Option (Lp σ β)):List α→σ→Option (Lp σ β)|[],s=>some (.nx s)|x::xs,s=>(Y s x).bind λr=>match r with|.nx s'=>iN Y xs s'|.br b=>some (.br b)
section
variable {σ α β:Type} {P:Program} {l:Nat} {vals:Mem→α→Lv→Prop} {Y:σ→α→Option (Lp σ β)}
def Grows (J:σ→Mem→List Ent→Prop):Prop:=∀s M M' E,M.le M'→J s M E→J s M' E
def Yld (P:Program) (l:Nat) (vals:Mem→α→Lv→Prop) (J:σ→Mem→List Ent→Prop) (Jx:β→Mem→List Ent→Prop) (Y:σ→α→Option (Lp σ β)):Prop:=∀s x r,Y s x=some r→∀w0 M E H w vs,J s M E→vals M x vs→Hp w0 M (E++H) w→∃fn tmps asg bd,(Instr.yield l vs.toArray).run P w=.ok (.round l fn tmps asg bd) w∧RoundIn Fence.wide 0 P l fn tmps asg bd w λe w'=>∃M' E',M.le M'∧Hp w0 M' (E'++H) w'∧match r with|.nx s'=>e=.returned (.bool true)∧J s' M' E'|.br b=>e=.returned (.bool false)∧Jx b M' E'
def IterTo (P:Program) (f:FuncId) (args:Lv) (J:σ→Mem→List Ent→Prop) (Jx:β→Mem→List Ent→Prop) (r:Lp σ β) (s0:σ) (M:Mem):Prop:=∀w0 M1 E H w,M.le M1→J s0 M1 E→Hp w0 M1 (E++H) w→Calls P f args.toArray w λe w'=>∃v,e=.returned v∧∃M' E',M1.le M'∧Hp w0 M' (E'++H) w'∧match r with|.nx s'=>J s' M' E'|.br b=>Jx b M' E'
def RB (Ju:σ→Mem→List Ent→Prop) (Jxu:β→Mem→List Ent→Prop) (jm:β→Jmp) (r:Lp σ β) (w0:World) (M:Mem) (H:List Ent):Exit→Act→World→Prop:=λe _ w=>match r with|.nx s'=>e=.normal∧∃M' E',M.le M'∧Hp w0 M' (E'++H) w∧Ju s' M' E'|.br b=>e=(jm b).way∧∃M' E',M.le M'∧Hp w0 M' (E'++H) w∧Jxu b M' E'
theorem RB_out {Ju:σ→Mem→List Ent→Prop} {Jxu:β→Mem→List Ent→Prop} {jm:β→Jmp} {r:Lp σ β} {w0:World} {M:Mem} {H:List Ent}: ¬LetsOut (RB Ju Jxu jm r w0 M H):=by
 rintro⟨a,w,h⟩
 unfold RB at h
 cases r with
 |nx s=>cases h.1
 |br b=>have:=h.1;cases hj:jm b<;>rw[hj] at this<;>cases this
abbrev mark (D:Nat):List Deferred:=[{target:=.collected D,args:=#[]}]
theorem Frm.marked {n:Nat} {L:Fr} {a:Act} (h:Frm n L a) (D:Nat):Frm n L {a with defers:=mark D++a.defers} (mark D):=
 ⟨h.size,by show mark D++a.defers=_;rw[h.defers];rfl,h.at_⟩
end
section
variable {P:Program} {fn:Func} {n:Nat} {L:Fr} {a:Act} {w w0:World} {M:Mem} {H:List Ent} {R:Ending→World→Prop}
theorem R_enterM {f:FuncId} {c:Code} {args:Lv} (n:Nat)
 (hf:P.funcs[f]? =some fn) (hb:fn.body=some c) (hn:fn.ntmps=n) (hle:args.length≤n)
 (h: ∀a,Frm n (frame0 args 0) a→c.wp P (bodyPostM Fence.wide 0 P fn R) a w):Calls P f args.toArray w R:=by
 refine(callsIn_wide (n:=0)).1 (callsIn_of_wp_marks hf hb trivial (wpIn_wide.2 (h _ ⟨by simp[hn];omega,rfl,λt v hv=>?_⟩)))
 obtain⟨_,h2⟩:=vp args 0 t v hv
 simp only[Nat.sub_zero] at h2
 have hlt:t<args.length:=(List.getElem?_eq_some_iff.1 h2).1
 rw[List.getElem?_eq_getElem hlt] at h2
 simp only[Option.some.injEq] at h2
 simp[Array.getElem?_append,hlt,h2]
def Res (P:Program) (fn:Func) (a:Act) (R:Ending→World→Prop) (w:World):Prop:=∃v,(results fn a.tmps).run P w=.ok v w∧R (.returned v) w
theorem E_M0 (hf:Frm n L a) (h:Res P fn a R w):bodyPostM Fence.wide 0 P fn R .ret a w:=by
 show LeavesInM Fence.wide 0 P fn a.tmps R a.defers .returning w
 rw[hf.defers]
 exact h
theorem E_M1 {D:Nat} (hf:Frm n L a (mark D)) (hp:Hp w0 M (.obj D (.deferred (some []))::H) w) (h: ∀w,Hp w0 M H w→Res P fn a R w):bodyPostM Fence.wide 0 P fn R .ret a w:=by
 show LeavesInM Fence.wide 0 P fn a.tmps R a.defers .returning w
 rw[hf.defers]
 have hk:w.heap[D]? =some (.deferred (some [])):=(hp.own _ (List.mem_cons_self)).2
 exact⟨by simp,.inl ⟨D,_,rfl,run_takeDeferred hk,h _ (hp.put (y:=.deferred none)).drop⟩⟩
end
def IterOk (P:Program) (f:FuncId) (caps:Lv) {α:Type} (vals:Mem→α→Lv→Prop) (xs:List α) (M:Mem):Prop:=(∀args w,(callFunc f args).run P w=.ok (.enter f args) w)∧∀ (σ β:Type) (Y:σ→α→Option (Lp σ β)) (s0:σ) (r:Lp σ β),iN Y xs s0=some r→∀l J Jx,Grows J→Grows Jx→Yld P l vals J Jx Y→IterTo P f (.func (.yield l) #[] #[]::caps) J Jx r s0 M
theorem IterOk.mono {P:Program} {f:FuncId} {caps:Lv} {α:Type} {vals:Mem→α→Lv→Prop} {xs:List α} {M M':Mem} (h:IterOk P f caps vals xs M) (hM:M.le M'):IterOk P f caps vals xs M':=
 ⟨h.1,λσ β Y s0 r hr l J Jx hJ hJx hY w0 M1 E H w h1=>h.2 σ β Y s0 r hr l J Jx hJ hJx hY w0 M1 E H w (hM.trans h1)⟩
section
variable {σ β:Type} {Ju:σ→Mem→List Ent→Prop} {Jxu:β→Mem→List Ent→Prop} {jm:β→Jmp} {w0:World} {M:Mem} {H:List Ent} {a:Act} {w:World}
theorem F_out: ¬LetsOut (λ_ _ _=>False):=λ ⟨_,_,h⟩=>h
theorem RB_n {s':σ} (h: ∃M' E',M.le M'∧Hp w0 M' (E'++H) w∧Ju s' M' E'):RB Ju Jxu jm (.nx s') w0 M H .normal a w:=⟨rfl,h⟩
theorem RB_x {b:β} {e:Exit} (he:e=(jm b).way) (h: ∃M' E',M.le M'∧Hp w0 M' (E'++H) w∧Jxu b M' E'):RB Ju Jxu jm (.br b) w0 M H e a w:=⟨he,h⟩
end
theorem Hp.fzOwn {w0:World} {M:Mem} {H:List Ent} {w:World} {b:Nat} {T:TypeId} {cs:Lv} (h:Hp w0 M (.obj b (.cells cs.toArray T (0,0))::H) w):
 ∃M',M.le M'∧Hp w0 M' H w∧∀j v,cs[j]? =some v→M'.cell? ((⟨b,0,none⟩:Addr).add j)=some v:=
 ⟨_,h.freeze.1,h.freeze.2,fz_box (cs:=cs.toArray) (λj v hv=>by rw[mz,hv])⟩
section
variable {P:Program} {ops:Array Oper} {md:Region.Mode} {Q:Exit→Act→World→Prop} {I:Type}
end
section
variable {P:Program} {ops:Array Oper} {n:Nat} {Q:Exit→Act→World→Prop} {L:Fr} {a:Act} {w0 w:World} {M:Mem} {Hr:List Ent} {i:Mem×List Ent}
end
variable {dd:List Deferred}
def takeAt:Nat→List Ent→Option (Ent×List Ent)|0,e::H=>some (e,H)|i+1,e::H=>(takeAt i H).map λr=>(r.1,e::r.2)|_,[]=>none
def pullE (i:Nat) (H:List Ent):List Ent:=match takeAt i H with|some r=>r.1::r.2|none=>H
def pulls:List Nat→List Ent→List Ent|[],H=>H|i::is,H=>pulls is (pullE i H)
theorem zT: ∀ (i:Nat) (H:List Ent) (r:Ent×List Ent),takeAt i H=some r→H.Perm (r.1::r.2)
 |0,[],r,h=>by simp[takeAt] at h
 |0,e::H,r,h=>by simp only[takeAt,Option.some.injEq] at h;subst h;exact List.Perm.refl _
 |i+1,[],r,h=>by simp[takeAt] at h
 |i+1,e::H,r,h=>by
  simp only[takeAt] at h
  obtain⟨s,hs,rfl⟩:=Option.map_eq_some_iff.1 h
  exact((zT i H s hs).cons e).trans (List.Perm.swap _ _ _)
theorem BE: ∀ (is:List Nat) (H:List Ent),H.Perm (pulls is H)
 |[],H=>List.Perm.refl _
 |i::is,H=>by
  unfold pulls
  refine List.Perm.trans ?_ (BE is _)
  unfold pullE
  split
  ·rename_i r hr;exact zT i H r hr
  exact List.Perm.refl _
theorem Hp.pl {w0 w:World} {M:Mem} {H:List Ent} (h:Hp w0 M H w) (is:List Nat):Hp w0 M (pulls is H) w:=h.perm (BE is H)
def runF (P:Program) (ops:Array Oper) (n:Nat) (l:List Oper) (L:Fr) (w:World):Fr:=match runL P ops n l L w with|some r=>r.1|none=>[]
section
variable {P:Program} {ops:Array Oper} {n:Nat} {Q:Exit→Act→World→Prop} {L:Fr} {a:Act} {w0 w:World} {M:Mem} {H:List Ent}
theorem bY {l:List Oper} (hf:Frm n L a dd) (m:Nat) (h: (runL P ops n (l.take m) L w).map (·.2)=some w) (hk: ∀a',Frm n (runF P ops n (l.take m) L w) a' dd→wpList P ops Q (l.drop m) a' w):wpList P ops Q l a w:=by
 obtain⟨r,h1,h2⟩:=Option.map_eq_some_iff.1 h
 have e:runF P ops n (l.take m) L w=r.1:=by unfold runF;rw[h1]
 rw[e] at hk
 have:=sO (Q:=Q) (l.drop m) (l.take m) L w a hf r.1 w (by rw[h1,←h2]) hk
 rwa [List.take_append_drop] at this
theorem Y {l:List Oper} (hf:Frm n L a dd) (m:Nat) (hk: ∀a',Frm n (runF P ops n (l.take m) L w) a' dd→wpList P ops Q (l.drop m) a' w) (h: (runL P ops n (l.take m) L w).map (·.2)=some w:=by kernel_rfl):wpList P ops Q l a w:=bY hf m h hk
theorem Ye {K : Act → World → Prop} {l : List Oper} (hf : Frm n L a dd) (m : Nat) (hk : ∀ a', Frm n (runF P ops n (l.take m) L w) a' dd → K a' w) (hl : l.drop m = [] := by rfl) (h : (runL P ops n (l.take m) L w).map (·.2) = some w := by kernel_rfl) : wpList P ops (Exit.then K Q) l a w := Y hf m (fun a' f => eT (hk a' f) hl) h
def okO (ops:Array Oper) (n:Nat) (L:Fr) (o:Oper):Bool:=match bv ops L o with|some true=>bX L o&& (match o.dst with|some d=>Nat.blt d n|none=>false)|_=>false
def dstO (o:Oper):Nat:=o.dst.getD 0
theorem kC {o:Oper} (h:okO ops n L o=true):bv ops L o=some true∧bX L o=true∧o.dst=some (dstO o)∧Nat.blt (dstO o) n=true:=by
 unfold okO at h
 split at h
 ·rename_i hw
  simp only[Bool.and_eq_true] at h
  refine⟨hw,h.1,?_⟩
  obtain⟨_,h⟩:=h
  unfold dstO
  split at h
  ·rename_i d hd;rw[hd];exact⟨rfl,h⟩
  cases h
 cases h
theorem ku {w':World} {o:Oper} {rest:List Oper} {v:Value} (hf:Frm n L a dd) (hB:okO ops n L o=true) (hx: (execOp (ev L) o).run P w=.ok (.value v) w') (hk: ∀a',Frm n ((dstO o,v)::L) a' dd→wpList P ops Q rest a' w'):wpList P ops Q (o::rest) a w:=by
 obtain⟨h1,h2,h3,h4⟩:=kC hB
 exact Af hf h1 h2 h3 h4 hx hk
theorem Z {w':World} {o:Oper} {rest:List Oper} {v:Value} (hf:Frm n L a dd) (hx: (execOp (ev L) o).run P w=.ok (.value v) w') (hk: ∀a',Frm n ((dstO o,v)::L) a' dd→wpList P ops Q rest a' w') (hB:okO ops n L o=true:=by kernel_rfl):wpList P ops Q (o::rest) a w:=ku hf hB hx hk
theorem V_okH {o:Oper} {rest:List Oper} {f:FuncId} {args:Lv} {E:List Ent} {Post:Mem→List Ent→Value→Prop} (hf:Frm n L a dd) (hp:Hp w0 M (E++H) w) (hc:OkH P M E f args Post) (hB:okO ops n L o=true) (hx: ∀w,(execOp (ev L) o).run P w=.ok (.enter f args.toArray) w)
 (hk: ∀v M' E' w',M.le M'→Hp w0 M' (E'++H) w'→Post M' E' v→∀a',Frm n ((dstO o,v)::L) a' dd→wpList P ops Q rest a' w'):wpList P ops Q (o::rest) a w:=by
 obtain⟨h1,h2,h3,h4⟩:=kC hB
 exact W_okH hf hp h1 h2 h3 h4 hx hc hk
theorem V_alloc {o:Oper} {rest:List Oper} (hf:Frm n L a dd) (hp:Hp w0 M H w) (ob:Obj) (hB:okO ops n L o=true) (h: ∀w,(execOp (ev L) o).run P w=.ok (.value (.pointer (some ⟨w.heap.size,0,none⟩))) (w.alloc ob))
 (hk: ∀b w',Hp w0 M (.obj b ob::H) w'→∀a',Frm n ((dstO o,.pointer (some ⟨b,0,none⟩))::L) a' dd→wpList P ops Q rest a' w'):wpList P ops Q (o::rest) a w:=
 ku hf hB (h w) (hk w.heap.size (w.alloc ob) (hp.alloc ob))
theorem uX {o:Oper} {rest:List Oper} (hf:Frm n L a dd) (hp:Hp w0 M H w) (ob:Obj) (k c:Nat) (hB:okO ops n L o=true) (h: ∀w,(execOp (ev L) o).run P w=.ok (.value (.slice (some ⟨w.heap.size,0,none⟩) k c)) (w.alloc ob))
 (hk: ∀b w',Hp w0 M (.obj b ob::H) w'→∀a',Frm n ((dstO o,.slice (some ⟨b,0,none⟩) k c)::L) a' dd→wpList P ops Q rest a' w'):wpList P ops Q (o::rest) a w:=
 ku hf hB (h w) (hk w.heap.size (w.alloc ob) (hp.alloc ob))
theorem V_box {o:Oper} {rest:List Oper} {cs:Array Value} {T:TypeId} (hf:Frm n L a dd) (hp:Hp w0 M H w) (hB:okO ops n L o=true) (h: ∀w,(execOp (ev L) o).run P w=.ok (.value (.pointer (some ⟨w.heap.size,0,none⟩))) (w.alloc (.cells cs T (0,0))))
 (hk: ∀b M' w',M.le M'→(∀j v,cs[j]? =some v→M'.cell? ⟨b,j,none⟩=some v)→Hp w0 M' H w'→∀a',Frm n ((dstO o,.pointer (some ⟨b,0,none⟩))::L) a' dd→wpList P ops Q rest a' w'):wpList P ops Q (o::rest) a w:=
 V_alloc hf hp _ hB h λb w' hp'=>hk b _ w' hp'.freeze.1 (λj v hv=>by rw[mz,hv]) hp'.freeze.2
end
section
variable {P:Program} {ops:Array Oper} {n:Nat} {C:World→Prop} {K:Act→Prop} {L:Fr} {a:Act} {w0:World} {M:Mem} {H:List Ent}
end
section
variable {P:Program} {ops:Array Oper} {n:Nat} {Q:Exit→Act→World→Prop} {L:Fr} {a:Act} {w0:World} {M:Mem} {Hr:List Ent} {i:Mem×List Ent}
end
section
variable {P:Program} {l:List Oper} {ks:List Nat} {n:Nat} {Q:Exit→Act→World→Prop} {L:Fr} {a:Act} {w0 w:World} {M:Mem} {Hr:List Ent} {i:Mem×List Ent}
end
theorem sI {α:Type} {a b:α} (h:some a=some b):a=b:=Option.some.inj h
theorem dI {p:Prop} [Decidable p]:decide p=true↔p:=decide_eq_true_iff
theorem bS {α β:Type} {x:Option α} {f:α→Option β} {r:β} (h:x.bind f=some r): ∃v,x=some v∧f v=some r:=Option.bind_eq_some_iff.1 h
theorem bE (b:Bool):b=true∨b=false:=Bool.eq_false_or_eq_true b
theorem mR (M:Mem):M.le M:=Mem.le_refl M
theorem nS {α:Type} {p:Prop} [Decidable p] {y:Option α} {r:α} (h:ar p y=some r):p∧y=some r:=eZ h
theorem Frm.st {n:Nat} {L:Fr} {a:Act} {dd:List Deferred} {v v':Value} (h:Frm n L a dd) (k:Nat) (e:v=v') (hl:Go.Vc.look L k=some v:=by kernel_rfl):Frm n ((k,v')::L) a dd:=h.set k hl e
theorem Frm.kp {n:Nat} {L K:Fr} {a:Act} {dd:List Deferred} (h:Frm n L a dd) (hk:Go.Vc.keep (K.map (·.1)) L=some K:=by kernel_rfl):Frm n K a dd:=h.keep hk
theorem cE {α:Type} {b:Bool} {x y r:α} (h: (bif b then x else y)=r): (b=true∧x=r)∨(b=false∧y=r):=by
 cases b
 · exact .inr ⟨rfl,h⟩
 exact .inl ⟨rfl,h⟩
theorem cB {a b:Bool} (h:a=b):Value.bool a=Value.bool b:=congrArg Value.bool h
theorem iW {k:IntKind} {x:Int} (h:inR k x):Value.int k (k.wrap x)=Value.int k x:=congrArg (Value.int k) (cD h)
section
variable {P:Program} {w0 w:World} {M:Mem} {H:List Ent} {e T:TypeId} {k:IntKind}
def rbag (e:TypeId) (k:IntKind):List CD→Lv→List Ent|x::d,v::hs=>.row e 1 v x.length (x.map (Value.int k))::rbag e k d hs|_,_=>[]
theorem AP: ∀ {d:List CD} {hs:Lv} {j:Nat} {x:CD} {v:Value},d[j]? =some x→hs[j]? =some v→(rbag e k d hs).Perm (.row e 1 v x.length (x.map (Value.int k))::rbag e k (d.eraseIdx j) (hs.eraseIdx j))
 |[],_,_,_,_,h,_=>by simp at h
 |_::_,[],_,_,_,_,h=>by simp at h
 |y::d,u::hs,0,x,v,h1,h2=>by
  simp at h1 h2
  subst h1
  subst h2
  exact .refl _
 |y::d,u::hs,j+1,x,v,h1,h2=>by
  simp only[List.getElem?_cons_succ] at h1 h2
  have ih:=AP h1 h2
  simp only[rbag,List.eraseIdx_cons_succ]
  exact(ih.cons _).trans (.swap _ _ _)
theorem vm {M:Mem}: ∀xs:CD,au M (xs.map (Dat.int k)) (xs.map (Value.int k))
 |[]=>rfl
 |x::r=>⟨[.int k x],_,rfl,rfl,vm r⟩
theorem xW {M:Mem}: ∀ {xs:CD} {cs:Lv},au M (xs.map (Dat.int k)) cs→cs=xs.map (Value.int k)
 |[],_,h=>h
 |x::r,_,⟨c,c',e1,e2,h⟩=>by
  subst e1
  have e3:c=[.int k x]:=e2
  rw[e3,xW h];rfl
theorem Hp.rbagHead (E:List Ent) {d:List CD} {hs:Lv} {it:Int} {x:CD} (h:Hp w0 M (E++(rbag e k d hs++H)) w) (hl:hs.length=d.length) (hx:aq d it=some x):
 ∃A cap,hs[it.toNat]? =some (.slice A x.length cap):=by
 obtain⟨h0,h1,h2⟩:=cH hx
 have h3:it.toNat<hs.length:=by omega
 have h4:hs[it.toNat]? =some hs[it.toNat]:=List.getElem?_eq_getElem h3
 have hp:=AP (e:=e) (k:=k) h2 h4
 have h5:Hp w0 M (.row e 1 hs[it.toNat] x.length (x.map (Value.int k))::(E++(rbag e k (d.eraseIdx it.toNat) (hs.eraseIdx it.toNat)++H))) w:=
  h.perm (((hp.append_right H).append_left E).trans List.perm_middle)
 obtain⟨A,cap,e1,_⟩:=h5.rowShape 0 rfl
 rw[e1] at h4
 exact⟨A,cap,h4⟩
theorem set_same {α:Type} {l:List α} {j:Nat} {v:α} (h:l[j]? =some v):l.set j v=l:=by
 obtain⟨hj,e⟩:=List.getElem?_eq_some_iff.1 h
 rw[←e,List.set_getElem_self]
theorem Hp.rbagPull (E:List Ent) {d:List CD} {hs:Lv} {it:Int} {x:CD} (h:Hp w0 M (E++(rbag e k d hs++H)) w) (hl:hs.length=d.length) (hx:aq d it=some x):
 ∃A cap,hs[it.toNat]? =some (.slice A x.length cap)∧Hp w0 M (.row e 1 (.slice A x.length cap) x.length (x.map (Value.int k))::(E++(rbag e k (d.eraseIdx it.toNat) (hs.eraseIdx it.toNat)++H))) w:=by
 obtain⟨h0,h1,h2⟩:=cH hx
 have h3:it.toNat<hs.length:=by omega
 have h4:hs[it.toNat]? =some hs[it.toNat]:=List.getElem?_eq_getElem h3
 have hp:=AP (e:=e) (k:=k) h2 h4
 have h5:Hp w0 M (.row e 1 hs[it.toNat] x.length (x.map (Value.int k))::(E++(rbag e k (d.eraseIdx it.toNat) (hs.eraseIdx it.toNat)++H))) w:=
  h.perm (((hp.append_right H).append_left E).trans List.perm_middle)
 obtain⟨A,cap,e1,_⟩:=h5.rowShape 0 rfl
 rw[e1] at h4 h5
 exact⟨A,cap,h4,h5⟩
theorem Hp.rbagPut (E:List Ent) {d:List CD} {hs:Lv} {j:Nat} {x:CD} {v:Value} {cs:Lv} (h:Hp w0 M (.row e 1 v x.length cs::(E++(rbag e k (d.eraseIdx j) (hs.eraseIdx j)++H))) w) (hc:au M (x.map (Dat.int k)) cs) (hl:hs.length=d.length) (hj:j<d.length):
 Hp w0 M (E++(rbag e k (d.set j x) (hs.set j v)++H)) w:=by
 rw[xW hc] at h
 have h1: (d.set j x)[j]? =some x:=by rw[List.getElem?_set_self hj]
 have h2: (hs.set j v)[j]? =some v:=by rw[List.getElem?_set_self (by omega)]
 have hp:=AP (e:=e) (k:=k) h1 h2
 rw[List.eraseIdx_set_eq,List.eraseIdx_set_eq] at hp
 exact h.perm ((((hp.append_right H).append_left E).trans List.perm_middle).symm)
theorem Hp.rbagBack (E:List Ent) {d:List CD} {hs:Lv} {it:Int} {x y:CD} {v:Value} {cs:Lv} (h:Hp w0 M (.row e 1 v x.length cs::(E++(rbag e k (d.eraseIdx it.toNat) (hs.eraseIdx it.toNat)++H))) w) (hc:au M (x.map (Dat.int k)) cs) (hl:hs.length=d.length) (hx:aq d it=some y) (hv:hs[it.toNat]? =some v):
 Hp w0 M (E++(rbag e k (d.set it.toNat x) hs++H)) w:=by
 obtain⟨h0,h1,_⟩:=cH hx
 have:=Hp.rbagPut E h hc hl (by omega)
 rwa [set_same hv] at this
theorem rr_ltD {d:List CD} {it:Int} {x:CD} (hx:aq d it=some x):it.toNat<d.length:=by
 have h1:=lY hx
 have h2:=lZ hx
 omega
theorem Hp.rbagKnown: ∀ {d:List CD} {hs:Lv} {M:Mem},hs.length=d.length→Hp w0 M (rbag e k d hs++H) w→∃M',M.le M'∧Hp w0 M' H w∧au M' (d.map (eL 1 (Dat.int k))) hs
 |[],[],M,_,h=>⟨M,Mem.le_refl M,h,rfl⟩
 |x::d,v::hs,M,hl,h=>by
  have h':Hp w0 M (.row e 1 v x.length (x.map (Value.int k))::(rbag e k d hs++H)) w:=h
  obtain⟨A,cap,M1,e1,h1,h2,h3⟩:=h'.rowSli (f:=Dat.int k) (xs:=x) (AR k) (vm x)
  obtain⟨M2,k1,k2,k3⟩:=Hp.rbagKnown (by simpa using hl) h2
  subst e1
  exact⟨M2,h1.trans k1,k2,[_],hs,rfl,(h3.mono k1).rep,k3⟩
theorem Hp.toTail (E B:List Ent) (h:Hp w0 M (B++(E++H)) w):Hp w0 M (E++(B++H)) w:=by
 refine h.perm ?_
 rw[←List.append_assoc,←List.append_assoc]
 exact List.perm_append_comm.append_right H
theorem Hp.rrKnown (E:List Ent) {b n:Nat} {d:List CD} {hs:Lv} (h:Hp w0 M (.obj b (.cells hs.toArray T (0,0))::(E++(rbag e k d hs++H))) w) (hl:hs.length=d.length∧d.length=n):
 ∃M',M.le M'∧Hp w0 M' (E++H) w∧Sli M' 1 (eL 1 (Dat.int k)) (some ⟨b,0,none⟩) n d:=by
 obtain⟨h1,h2⟩:=h.freeze
 obtain⟨M',h3,h4,h5⟩:=Hp.rbagKnown hl.1 (Hp.toTail _ _ h2)
 refine⟨M',h1.trans h3,h4,Nat.le_of_eq hl.2,(λq=>by cases q),.inr ⟨_,rfl,?_⟩⟩
 refine au.arr (λd hd=>by obtain⟨x,_,rfl⟩:=List.mem_map.1 hd;exact szd_list _ _) h5 (λj u hu=>?_)
 rw[Addr.add_lit]
 refine h3.cell ?_
 rw[Nat.zero_add,mz]
 simpa using hu
theorem rbag_nil: ∀n,Hp w0 M H w→Hp w0 M (rbag e k (List.replicate n []) (List.replicate n (.slice none 0 0))++H) w
 |0,h=>h
 |n+1,h=>(rbag_nil n h).nilRow e 1
end
section
variable {P:Program} {ops:Array Oper} {n:Nat} {Q:Exit→Act→World→Prop} {L:Fr} {a:Act} {w0 w:World} {M:Mem} {H:List Ent} {dd:List Deferred}
theorem W_makeRR {o:Oper} {rest:List Oper} {d:Nat} {t e e2:TypeId} {k:IntKind} {l c:Operand} {bytes:Nat} {m:Int} (E:List Ent) (hf:Frm n L a dd) (hp:Hp w0 M (E++H) w) (hw:bv ops L o=some true) (hr:bX L o=true)
 (hd:o.dst=some d) (hdn:Nat.blt d n=true) (ho:o.op=.makeSlice t l c) (hl:ev L l=.int .i64 m) (hc:ev L c=.int .i64 m) (ht:P.underlying t=some (.slice e)) (hinfo: (P.info? e).map (λi=>(i.zero,i.size,i.bytes))=some (some (.slice none 0 0),1,bytes))
 (hb:0≤m∧m*bytes≤140737488355328∧m≤140737488355328)
 (hk: ∀b w',Hp w0 M (.obj b (.cells (List.replicate m.toNat (.slice none 0 0)).toArray e (0,0))::(E++(rbag e2 k (List.replicate m.toNat []) (List.replicate m.toNat (.slice none 0 0))++H))) w'→∀a',Frm n ((d,.slice (some ⟨b,0,none⟩) m.toNat m.toNat)::L) a' dd→wpList P ops Q rest a' w'):wpList P ops Q (o::rest) a w:=by
 obtain⟨q,rfl⟩:=Int.eq_ofNat_of_zero_le hb.1
 have h1:bytes*q≤140737488355328:=by
  have h:=hb.2.1
  have e: ((q*bytes:Nat):Int)=(q:Int)* (bytes:Int):=Int.natCast_mul q bytes
  rw[Nat.mul_comm]
  omega
 have h2:q≤140737488355328:=by have:=hb.2.2;omega
 refine W_make hf hp hw hr hd hdn ho hl hc ht hinfo rfl (by omega) (by omega) λb w' hp' a' ha=>?_
 exact hk b w' (Hp.toTail (H:=H) (.obj b _::E) _ (rbag_nil (e:=e2) (k:=k) q hp')) a' ha
theorem W_storeRR {o:Oper} {rest:List Oper} {t:TypeId} {x y:Operand} {b j:Nat} {v:Value} {hs:Lv} {T:TypeId} (hf:Frm n L a dd) (hp:Hp w0 M H w) (i:Nat)
 (hw:bv ops L o=some true) (hr:bX L o=true) (hd:o.dst=none) (ho:o.op=.store t x y) (hx:ev L x=.pointer (some ((⟨b,0,none⟩:Addr).add (j*1)))) (hy:ev L y=v) (hv:v.oneCell'=true) (hs1:szIs P t 1=true)
 (he:H[i]? =some (.obj b (.cells hs.toArray T (0,0)))) (hj:j<hs.length)
 (hk: ∀w',Hp w0 M (H.set i (.obj b (.cells (hs.set j v).toArray T (0,0)))) w'→∀a',Frm n L a' dd→wpList P ops Q rest a' w'):wpList P ops Q (o::rest) a w:=by
 rw[Nat.mul_one,Addr.add_lit,Nat.zero_add] at hx
 refine xO hf hp i hw hr hd ho hx hy hv hs1 he (by simpa using hj) (by omega) _ rfl λw' hp' a' ha=>hk w' ?_ a' ha
 simpa using hp'
end
end Go.Vc
end
