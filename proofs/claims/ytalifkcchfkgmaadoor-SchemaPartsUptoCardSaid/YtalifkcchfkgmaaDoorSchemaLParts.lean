/-
  Chapter 9's law SchemaParts in plain Lean. Own work.
-/
import Derived.Test.YtalifkcchfkgmaaDoorSchemaP2
import Derived.Test.YtalifkcchfkgmaaDoorL3
set_option linter.unusedVariables false
set_option linter.unusedSimpArgs false
namespace Go.Proofs.YtalifkcchfkgmaaDoor
open Go Go.Vc Go.RowKit
theorem names_len (kind : List UInt8) : (namesS kind).length ≤ 4 := by
  unfold namesS
  cases decide (kDisk = kind) <;> cases decide (kNet = kind) <;> cases decide (kNode = kind) <;> cases decide (kRule = kind) <;> decide
theorem specs_run (kind : List UInt8) : ∃ l, schema_Specs 10000 kind = some (l, bif kindIn kind then 0 else 90) := by
  unfold schema_Specs
  cases hk : kindIn kind with
  | false => exact ⟨_, by rw [Bool.not_false, cT, cF]⟩
  | true =>
    rw [Bool.not_true, cF, cT]
    have hl := names_len kind
    obtain ⟨b, hb, _⟩ := loop_inv (step := schema_Specs_s1 10000 kind) (n := 10000) (s0 := (([] : List T_api_Spec), (0 : Int))) (fun k s => s.2 = (k : Int) ∧ s.1.length = k) (fun _ => True) (namesS kind).length ⟨rfl, rfl⟩
      (fun k s hk hI => by
        obtain ⟨h1, h2⟩ := hI
        refine .inl ?_
        unfold schema_Specs_s1
        rw [h1, decide_eq_true (by omega), cT, getI_at [] hk, bnd, need_t (by omega), need_i (by omega) (by omega)]
        exact ⟨_, rfl, by dsimp only; omega, by simp [h2]⟩)
      (fun s hI => by
        obtain ⟨h1, h2⟩ := hI
        unfold schema_Specs_s1
        rw [h1, decide_eq_false (by omega), cF]
        exact ⟨_, rfl, trivial⟩) (by omega)
    exact ⟨b, by rw [hb, bnd]⟩
def accG (kind : List UInt8) (gs : List T_api_Given) (k : Nat) : Bool := kindIn kind && !((List.range k).any fun i => !(okG kind (gs.getD i z_T_api_Given) && upG gs i))
theorem accG_succ (kind : List UInt8) (gs : List T_api_Given) (k : Nat) : accG kind gs (k + 1) = (accG kind gs k && (okG kind (gs.getD k z_T_api_Given) && upG gs k)) := by
  unfold accG
  rw [List.range_succ, List.any_append]
  cases kindIn kind <;> cases (List.range k).any (fun i => !(okG kind (gs.getD i z_T_api_Given) && upG gs i)) <;> simp
theorem check_one {kind : List UInt8} (hk : kindIn kind = true) (g : T_api_Given) : checkG kind [g] = bif okG kind g then 0 else 91 := by
  have e : ((List.range [g].length).any fun k => !(okG kind ([g].getD k z_T_api_Given) && upG [g] k)) = !okG kind g := by
    have e1 : List.range [g].length = [0] := rfl
    have e2 : upG [g] 0 = true := rfl
    have e3 : [g].getD 0 z_T_api_Given = g := rfl
    rw [e1, List.any_cons, List.any_nil, e2, e3, Bool.and_true, Bool.or_false]
  unfold checkG
  rw [hk, e, Bool.not_true, cF]
  cases okG kind g <;> rfl
theorem acc_check (kind : List UInt8) (gs : List T_api_Given) : (decide (checkG kind gs = 0) == accG kind gs gs.length) = true := by
  unfold checkG accG
  cases kindIn kind <;> cases (List.range gs.length).any (fun i => !(okG kind (gs.getD i z_T_api_Given) && upG gs i)) <;> rfl
theorem parts_loop (kind : List UInt8) {gs : List T_api_Given} (hl : gs.length ≤ 60) (hf : ∀ g ∈ gs, Fine g.fV) : loopF (law09_SchemaParts_s1 10000 kind gs) 10000 (accG kind gs 0, (0 : Int)) = some (accG kind gs gs.length) := by
  refine loop_all (f := fun k => (accG kind gs k, (k : Int))) gs.length _ (fun k hk => ?_) ?_ (by omega)
  · unfold law09_SchemaParts_s1
    dsimp only
    have hd : decide ((k : Int) < ((gs.length : Nat) : Int)) = true := decide_eq_true (by omega)
    have en : need (inR .i64 ((k : Int) + 1)) = fun (y : Option (Lp (Bool × Int) Bool)) => y := funext fun y => need_i (by omega) (by omega)
    have ecast : ((k : Int) + 1) = ((k + 1 : Nat) : Int) := by omega
    rw [hd, cT, accG_succ]
    cases ha : accG kind gs k with
    | false => rw [cF, need_i (by omega) (by omega), Bool.false_and, ecast]
    | true =>
      have hkind : kindIn kind = true := by
        unfold accG at ha
        cases h : kindIn kind with
        | true => rfl
        | false => rw [h] at ha; simp at ha
      have hx : gs[k]? = some gs[k] := List.getElem?_eq_getElem hk
      have hg : gs.getD k z_T_api_Given = gs[k] := by simp [List.getD, hk]
      have es : (gs.take ((k : Int) + 1).toNat).drop (k : Int).toNat = [gs[k]] := by
        have t1 : ((k : Int) + 1).toNat = k + 1 := by omega
        have t2 : (k : Int).toNat = k := by omega
        rw [t1, t2, List.take_add_one, hx, List.drop_append_of_le_length (by rw [List.length_take]; omega), List.drop_eq_nil_of_le (by rw [List.length_take]; omega)]
        rfl
      rw [cT, need_i (by omega) (by omega), need_t ⟨by omega, by omega, by omega⟩, es, schemaCheck_run (by omega) kind (by simp) (by intro g hgm; rw [List.mem_singleton.1 hgm]; exact hf _ (List.getElem_mem hk)), bnd, check_one hkind, hg, Bool.true_and]
      cases okG kind gs[k] with
      | false =>
        rw [cF, decide_eq_false (by decide), cF, need_i (by omega) (by omega), Bool.false_and, ecast]
      | true =>
        rw [cT, decide_eq_true rfl, cT, Bool.true_and]
        by_cases h0 : k = 0
        · subst h0
          rw [decide_eq_true (by rfl), cT, need_i (by omega) (by omega)]
          rfl
        · have hk1 : k - 1 < gs.length := by omega
          have e1 : (k : Int) - 1 = ((k - 1 : Nat) : Int) := by omega
          rw [decide_eq_false (by omega), cF, need_i (by omega) (by omega), e1, getI_at z_T_api_Given hk1, bnd, getI_at z_T_api_Given hk, bnd, need_i (by omega) (by omega), ecast]
          unfold upG
          rw [decide_eq_false h0, Bool.false_or]
  · unfold law09_SchemaParts_s1
    dsimp only
    rw [decide_eq_false (by omega), cF]
theorem schemaParts_true (kind : List UInt8) (gs : List T_api_Given) : law09_SchemaParts 10000 kind gs = some true := by
  unfold law09_SchemaParts
  by_cases g0 : (200 : Int) < (kind.length : Int)
  · rw [decide_eq_true g0, cT, bnd, cT, wakes_bind]
  rw [decide_eq_false g0, cF]
  obtain ⟨g, hg1, hg2⟩ := great9 (n := 10000) (by omega) gs
  rw [hg1, bnd, bnd]
  cases g with
  | true => rw [cT, wakes_bind]
  | false =>
    obtain ⟨hl, hf⟩ := hg2 rfl
    obtain ⟨l, hs⟩ := specs_run kind
    rw [cF, hs, bnd]
    have e0 : decide ((l, (bif kindIn kind then (0 : Int) else 90)).2 = 0) = accG kind gs 0 := by
      unfold accG
      cases kindIn kind <;> rfl
    rw [e0, parts_loop kind hl (fun x hx => (hf x hx).2), bnd, schemaCheck_run (by omega) kind hl (fun x hx => (hf x hx).2), bnd, acc_check, cT, wakes_bind]
end Go.Proofs.YtalifkcchfkgmaaDoor
