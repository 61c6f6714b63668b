/-
  VC, part 9: regions that draw their order, where all operations read or call quietly: one operation at a time. Own work.
-/
import Derived.Test.YtoonlehffohpaaaVc8
namespace Go.Vc
open Go Go.RowKit

section
variable {P : Program} {ops : Array Oper} {n : Nat} {C : World → Prop} {K : Act → Prop} {L : Fr} {a : Act} {w0 w : World} {M : Mem} {H : List Ent}

/-- An operation that yields v in every world of the class, and leaves the world. -/
theorem Q_eq {o : Oper} {rest : List Oper} {v : Value} {d : Nat} (hf : Frm n L a) (hw : wantedL ops L o = some true) (hr : readyL L o = true) (hd : o.dst = some d) (hdn : Nat.blt d n = true)
    (hx : ∀ w, C w → (execOp (ev L) o).run P w = .ok (.value v) w) (hk : ∀ a', Frm n ((d, v) :: L) a' → wpQuiet P ops C K rest a') : wpQuiet P ops C K (o :: rest) a := by
  simp only [wpQuiet]
  rw [hf.wanted hw, if_pos rfl]
  refine ⟨v, fun w hC => ?_, ?_⟩
  · unfold Oper.quietAt
    rw [hf.exec hr, hx w hC]
    exact ⟨rfl, rfl⟩
  · rw [hd]; exact hk _ (hf.put (by simpa [Nat.blt_eq] using hdn) v)

/-- An operation that is not wanted. -/
theorem Q_not {o : Oper} {rest : List Oper} {d : Nat} (hf : Frm n L a) (hw : wantedL ops L o = some false) (hd : o.dst = some d) (hdn : Nat.blt d n = true)
    (hk : ∀ a', Frm n ((d, undef) :: L) a' → wpQuiet P ops C K rest a') : wpQuiet P ops C K (o :: rest) a := by
  simp only [wpQuiet]
  rw [hf.wanted hw, if_neg (by simp)]
  rw [hd]; exact hk _ (hf.put (by simpa [Nat.blt_eq] using hdn) undef)

/-- A call by a contract that tells the value. -/
theorem Q_okv {o : Oper} {rest : List Oper} {d : Nat} {f : FuncId} {args : List Value} {v : Value} (hf : Frm n L a) (hw : wantedL ops L o = some true) (hr : readyL L o = true)
    (hd : o.dst = some d) (hdn : Nat.blt d n = true) (hx : ∀ w, (execOp (ev L) o).run P w = .ok (.enter f args.toArray) w) (hc : Ok P M f args fun _ u => u = v)
    (hk : ∀ a', Frm n ((d, v) :: L) a' → wpQuiet P ops (fun w => Hp w0 M H w) K rest a') : wpQuiet P ops (fun w => Hp w0 M H w) K (o :: rest) a := by
  simp only [wpQuiet]
  rw [hf.wanted hw, if_pos rfl]
  refine ⟨v, fun w hC => ?_, ?_⟩
  · unfold Oper.quietAt
    rw [hf.exec hr, hx w]
    refine ⟨rfl, (hc M (Mem.le_refl M) w0 H w hC).mono fun e w' ⟨u, he, M', hM, hp, hv⟩ => ?_⟩
    exact ⟨by rw [he, hv], hp.less hM⟩
  · rw [hd]; exact hk _ (hf.put (by simpa [Nat.blt_eq] using hdn) v)

theorem Q_end {l : List Oper} (hl : l = []) (h : K a) : wpQuiet P ops C K l a := by subst hl; exact h

theorem R_draw {id : Nat} {Q : Exit → Act → World → Prop} (hp : Hp w0 M H w) (hm : P.follows .mixedOrders = true) (hB : Region.lexB .any ops = true)
    (h : wpQuiet P ops (fun w => Hp w0 M H w) (fun a => ∀ w, Hp w0 M H w → Q .normal a w) ops.toList a) : (Code.region id ops true).wp P Q a w :=
  wp_region_quiet (C := fun w => Hp w0 M H w) hm hB hp.drew h
end
end Go.Vc
