/-
  Own kit: the ends of a round, for the printing program. Own work.
-/
import Derived.Test.YtalifkcchfkgmaaDoorVkC
namespace Go.Vc
open Go Go.RowKit
section
variable {σ β : Type} {Ju : σ → Mem → List Ent → Prop} {Jxu : β → Mem → List Ent → Prop} {jm : β → Jmp} {w0 : World} {M : Mem} {H : List Ent} {a : Act} {w : World}
theorem F_out : ¬ LetsOut (fun _ _ _ => False) := fun ⟨_, _, h⟩ => h
theorem RB_n {s' : σ} (h : ∃ M' E', M.le M' ∧ Hp w0 M' (E' ++ H) w ∧ Ju s' M' E') : RB Ju Jxu jm (.nx s') w0 M H .normal a w := ⟨rfl, h⟩
theorem RB_x {b : β} {e : Exit} (he : e = (jm b).way) (h : ∃ M' E', M.le M' ∧ Hp w0 M' (E' ++ H) w ∧ Jxu b M' E') : RB Ju Jxu jm (.br b) w0 M H e a w := ⟨he, h⟩
end
theorem Hp.fzOwn {w0 : World} {M : Mem} {H : List Ent} {w : World} {b : Nat} {T : TypeId} {cs : List Value} (h : Hp w0 M (.obj b (.cells cs.toArray T (0, 0)) :: H) w) :
    ∃ M', M.le M' ∧ Hp w0 M' H w ∧ ∀ j v, cs[j]? = some v → M'.cell? ((⟨b, 0, none⟩ : Addr).add j) = some v :=
  ⟨_, h.freeze.1, h.freeze.2, fz_box (cs := cs.toArray) (fun j v hv => by rw [add_cell, hv])⟩
theorem RI_draw {ro : Option Nat} {P : Program} {ops : Array Oper} {Q : Exit → Act → World → Prop} {a : Act} {w w0 : World} {M : Mem} {H : List Ent} {id : Nat} (hQ : ¬ LetsOut Q) (hd : noDefer ops.toList = true) (hp : Hp w0 M H w) (hm : P.follows .mixedOrders = true) (hB : Region.lexB .any ops = true)
    (h : wpQuiet P ops (fun w => Hp w0 M H w) (fun a => ∀ w, Hp w0 M H w → Q .normal a w) ops.toList a) : (Code.region id ops true).wr ro P Q a w := by
  simp only [Region.lexB, Bool.and_eq_true] at hB
  refine RI_draw0 hQ hd hm (wpAny_of_quiet (Q := fun a' => ∀ w', Hp w0 M H w' → Q .normal a' w') (fun _ w' hw' h => h w' hw') _ _ _ _ hp.drew ?_)
  have := wpAnyQ_lex (C := fun w => Hp w0 M H w) (md := .any) hB.1 ops.toList 0 (Array.replicate ops.size false) a (by simp) (by simpa using hB.2) h
  simpa using this
end Go.Vc
