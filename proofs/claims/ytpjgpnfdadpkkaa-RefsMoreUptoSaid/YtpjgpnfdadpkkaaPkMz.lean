/-
  The law RefsMore holds: the row, out of the contract law16_RefsMore_ok of the function itself. No condition but the bulk of the arguments.
-/
import Derived.Test.YtpjgpnfdadpkkaaRows
import Derived.Test.YtpjgpnfdadpkkaaPkM1
import Derived.Test.YtpjgpnfdadpkkaaPkM4
import Derived.WalkKit
import Derived.ProofKit
import Derived.OpenShut
import Derived.ShutString
import Derived.ChangeOld
import Derived.JoinedCond
import Derived.Below
import Derived.Carry
set_option linter.unusedVariables false
set_option linter.unusedSimpArgs false
set_option maxHeartbeats 2000000
namespace Go.Proofs.Ytpjgpnfdadpkkaa.refsMoreUpto
open Go Go.ChangeShapes Go.WideShapes Go.ChangeAt Go.RowKit Go.Vc
open Go.ChangeMaps (open_string shut_string)
theorem own : ownKnob Try.prog.godebug = none := by kernel_rfl
theorem laid : laidOutB Try.prog = true := by kernel_rfl
set_option maxRecDepth 100000 in
theorem contract (H : Type) (enc : TypeId × Value → H) (W : World) (base : Nat) (args : Array Value) (ds gs : List (DataW H)) (before : List MemPlace)
  (hval0 : ∀ (j : Nat) t v, Try.f3.params[j]? = some t → args[j]? = some v → Value.okWide Try.prog W .any base t v)
  (hW : DataW.Whole enc Try.prog Try.f3.params.toList Rows.refsMoreSpec.vars false W args.toList ds gs before) (hk : Rows.uptoSmall H (ds ++ gs) = true) :
  Calls Try.prog 3 args W fun e W' => ∃ v, e = .returned v ∧ Rows.refsMoreSpec.post enc Try.prog Try.f3 false true false false W args v W' := by
 have hval : ∀ (j : Nat) t v, Try.f3.params[j]? = some t → args[j]? = some v → Value.okWide Try.prog W .any base t v := hval0
 have hW' := hW
 obtain ⟨p, q, hA0, hV, rfl, hfz, hnd⟩ := hW
 have hA : DataW.TrodAll enc Try.prog W 0 (fun _ => true) true Try.f3.params.toList args.toList ds p := hA0
 rw [Try.params3] at hA hval
 obtain ⟨v0, vs0, d0, ds0, p0, q0, hargs, rfl, rfl, h0, r0⟩ := trodAll_cons hA
 obtain ⟨v1, vs1, d1, ds1, p1, q1, rfl, rfl, rfl, h1, r1⟩ := trodAll_cons r0
 obtain ⟨rfl, rfl, rfl⟩ := trodAll_nil r1
 obtain rfl : args = #[v0, v1] := by cases args; simp_all
 obtain ⟨rfl, rfl⟩ := trodVars_none hV
 have hB : BulkOk (H := H) Rows.uptoBulk := bulk_ok
 obtain ⟨c0, e0, rfl, s0, w0, b0⟩ := OpnAt.struct_arg (f := emb_TA0) (opa_TA0 hB) ((okWide_struct Try.underlying27 (hval 0 27 v0 rfl rfl)).imp fun _ h => h.1) h0
 obtain ⟨e1, rfl, _, _, w1⟩ := open_string Try.underlying9 (hval 1 9 v1 rfl rfl) h1
 have hb0 : dsz (emb_TA0 e0) ≤ 1048576 := Nat.le_trans b0 (bulk_one hk (by simp))
 clear hA0 hval0
 simp only [List.append_nil] at hW'
 have l0 : ∀ x ∈ p0, x.block < W.heap.size := fun x hx => by simpa using hW'.lt x (by simp [hx])
 have l1 : ∀ x ∈ p1, x.block < W.heap.size := fun x hx => by simpa using hW'.lt x (by simp [hx])
 have hcall : Calls Try.prog 3 #[.agg c0.toArray, .string e1] W fun e w' => e = .returned (.bool true) ∧ Below W.heap.size W w' :=
  Ok.top (args := [.agg c0.toArray, S e1.data.toList]) (law16_RefsMore_ok 3000000 (Mem.of W) c0 e0 s0 e1.data.toList true (Go.Proofs.Ytpjgpnfdadpkkaa.refsMore_true e0 hb0 e1.data.toList))
 refine hcall.mono fun e W' ⟨he, bel⟩ => ?_
 subst he
 exact ⟨_, rfl, _, _, _, [], _, [], hW', trodAll_mk1 (shut_bool Try.underlying4 _), (trodAll_cons_mk (Below.trod laid (by kernel_rfl) (of_decide_eq_true (by kernel_rfl)) h0 bel l0) (trodAll_cons_mk (Below.trod laid (by kernel_rfl) (of_decide_eq_true (by kernel_rfl)) h1 bel l1) trodAll_mk0)), rfl, bel.frame _, fun h => by cases h⟩
set_option maxRecDepth 100000 in
theorem lifted (os : Os) (started : os.Started) (H : Type) (enc : TypeId × Value → H) (F : Stop.Interp) :
  ReturnsInHanded {} Try.checked os 3 .any ((Rows.OpenSpec.upto Rows.refsMoreSpec).pre6 enc Try.prog Try.f3 Rows.refsMoreUptoRow.domain false) (((Rows.OpenSpec.upto Rows.refsMoreSpec).at F).post enc Try.prog Try.f3 false true false false) := by
 refine returnsInHanded_of_cond (C := Try.checked) (s := Rows.OpenSpec.upto Rows.refsMoreSpec) (k := Rows.uptoSmall) rfl own started (by kernel_rfl) Try.func3
  (OpenSpec.witness (enc := enc) (C := Try.checked) (s := Rows.OpenSpec.upto Rows.refsMoreSpec) (k := Rows.uptoSmall) rfl false ⟨#[], #[.agg #[.slice none 0 0, .slice none 0 0, .slice none 0 0, .slice none 0 0], .string ⟨#[]⟩], []⟩ 8 (by kernel_rfl) (by kernel_rfl) (by kernel_rfl)
   (x := ([.agg [.nil, .nil, .nil, .nil], .lit (.string [])], [], [])) (by kernel_rfl) rfl (by kernel_rfl)) ?_
 intro W base args ds gs before hval hW _ hk _
 exact contract H enc W base args ds gs before hval hW hk
theorem c0 : (Rows.refsMoreUptoRow.wf (OpenSpec.ofChange (Rows.OpenSpec.upto Rows.refsMoreSpec).bare)) = true := by kernel_rfl
theorem c1 : (laidOutB Try.pinned.checked.prog) = true := by kernel_rfl
theorem c2 : (mapsRowed Try.pinned.checked.prog) = true := by kernel_rfl
theorem c3 : (Try.f3.params.all (Try.pinned.checked.prog.readableRec ·)) = true := by kernel_rfl
theorem c4 : (namedTie Try.pinned.checked.prog Rows.refsMoreUptoRow.named (Rows.OpenSpec.upto Rows.refsMoreSpec).bare.vars) = true := by kernel_rfl
theorem c5 : ((Rows.refsMoreUptoRow.stops == [])) = true := by kernel_rfl
theorem c6 : ((Try.pinned.checked.prog.stops == [])) = true := by kernel_rfl
theorem c7 : ((Rows.refsMoreUptoRow.knobs == [])) = true := by kernel_rfl
theorem c8 : ((Try.pinned.checked.prog.stopKnobs == [])) = true := by kernel_rfl
theorem c9 : ((Rows.refsMoreUptoRow.inPlace == Try.pinned.checked.prog.inPlace 3)) = true := by kernel_rfl
theorem c10 : ((Rows.refsMoreUptoRow.unfollowed == Try.pinned.checked.prog.unfollowed 3)) = true := by kernel_rfl
theorem c11 : ((Rows.refsMoreUptoRow.recurses == Try.pinned.checked.prog.recurses 3)) = true := by kernel_rfl
theorem c12 : ((Rows.refsMoreUptoRow.named == Try.pinned.checked.prog.varsNamed 3)) = true := by kernel_rfl
theorem c13 : ((Rows.refsMoreUptoRow.maps == (Try.f3.params.toList ++ (Rows.OpenSpec.upto Rows.refsMoreSpec).bare.plain.varTypes Try.pinned.checked.prog).any (Try.pinned.checked.prog.mapsRec ·))) = true := by kernel_rfl
theorem c14 : ((Rows.refsMoreUptoRow.ifaces == (Try.f3.params.toList ++ (Rows.OpenSpec.upto Rows.refsMoreSpec).bare.plain.varTypes Try.pinned.checked.prog).any (Try.pinned.checked.prog.ifacesRec ·))) = true := by kernel_rfl
theorem c15 : ((Rows.refsMoreUptoRow.mapsOut == Try.pinned.checked.prog.mapsAmong Try.f3.resultTypes.toList)) = true := by kernel_rfl
theorem c16 : ((Rows.refsMoreUptoRow.loops == (Try.f3.params.toList ++ (Rows.OpenSpec.upto Rows.refsMoreSpec).bare.plain.varTypes Try.pinned.checked.prog).any (Try.pinned.checked.prog.loopsFrom ·))) = true := by kernel_rfl
theorem c17 : ((Rows.refsMoreUptoRow.wideKeys == (Try.f3.params.toList ++ (Rows.OpenSpec.upto Rows.refsMoreSpec).bare.plain.varTypes Try.pinned.checked.prog ++ Try.f3.resultTypes.toList).any (Try.pinned.checked.prog.wideKeysFrom ·))) = true := by kernel_rfl
theorem c18 : ((Rows.OpenSpec.upto Rows.refsMoreSpec).bare.vars.all (Try.pinned.checked.prog.varReadable ·)) = true := by kernel_rfl
theorem c19 : (Try.f3.resultTypes.all (fun t => Try.pinned.checked.prog.readableRec t && decide (t < Try.pinned.checked.prog.types.size))) = true := by kernel_rfl
theorem c20 : ((Rows.refsMoreUptoRow.ifacesOut == Try.f3.resultTypes.toList.any (Try.pinned.checked.prog.ifacesRec ·))) = true := by kernel_rfl
theorem c21 : ((Rows.refsMoreUptoRow.loopsOut == Try.f3.resultTypes.toList.any (Try.pinned.checked.prog.loopsFrom ·))) = true := by kernel_rfl
theorem c22 : ((Rows.refsMoreUptoRow.plainKeys == Try.pinned.checked.prog.plainKeys)) = true := by kernel_rfl
theorem c23 : (Rows.refsMoreUptoRow.shortTexts.isNone) = true := by kernel_rfl
theorem c24 : (Try.pinned.checked.prog.stopsHeard) = true := by kernel_rfl
theorem c25 : (Try.pinned.checked.prog.mayEnter) = true := by kernel_rfl
theorem c26 : ((Rows.refsMoreUptoRow.lifted == Try.pinned.checked.prog.liftsFinal)) = true := by kernel_rfl
theorem c27 : ((Try.pinned.checked.prog.make == some Rows.refsMoreUptoRow.make)) = true := by kernel_rfl
theorem c29 : ((Rows.refsMoreUptoRow.pinned == Rows.refsMoreUptoRow.pinnedBy)) = true := by kernel_rfl
theorem c30 : ((Rows.refsMoreUptoRow.veiled == (Try.f3.params.toList ++ (Rows.OpenSpec.upto Rows.refsMoreSpec).bare.plain.varTypes Try.pinned.checked.prog ++ Try.f3.resultTypes.toList).any (Try.pinned.checked.prog.veiledRec ·))) = true := by kernel_rfl
theorem c31 : (Rows.refsMoreUptoRow.veiledFits Try.pinned.checked.prog Try.f3.params.toList (Try.f3.params.toList ++ (Rows.OpenSpec.upto Rows.refsMoreSpec).bare.plain.varTypes Try.pinned.checked.prog ++ Try.f3.resultTypes.toList)) = true := by kernel_rfl
theorem mk2 {a b : Bool} (h : a = true) (k : b = true) : (a && b) = true := by rw [h, k]; rfl
theorem closed : joinedFacts Try.pinned.checked.prog 3 Try.f3 (Rows.OpenSpec.upto Rows.refsMoreSpec).bare Rows.refsMoreUptoRow = true := by
 unfold joinedFacts
 exact (mk2 (mk2 (mk2 (mk2 (mk2 (mk2 (mk2 (mk2 (mk2 (mk2 (mk2 (mk2 (mk2 (mk2 (mk2 (mk2 (mk2 (mk2 (mk2 (mk2 (mk2 (mk2 (mk2 (mk2 (mk2 (mk2 (mk2 (mk2 (mk2 (mk2 (mk2 c0 c1) c2) c3) c4) c5) c6) c7) c8) c9) c10) c11) c12) c13) c14) c15) c16) c17) c18) c19) c20) c21) c22) c23) c24) c25) c26) c27) (by kernel_rfl)) c29) c30) c31)
theorem inst : Try.f3.isInstance Try.pinned.checked.prog Rows.refsMoreUptoRow.origin Rows.refsMoreUptoRow.targs := of_decide_eq_true (by kernel_rfl)
theorem wrap : Try.f3.isWrapper Try.pinned.checked.prog Rows.refsMoreUptoRow.wrapper Rows.refsMoreUptoRow.mainSum := by unfold Func.isWrapper; first | (rw [if_pos (by decide +kernel)]; kernel_rfl) | (rw [if_neg (by decide +kernel)]; exact ⟨rfl, rfl⟩)
theorem named : Try.pinned.checked.prog.funcNamed Rows.refsMoreUptoRow.func = some 3 := by kernel_rfl
theorem over : Rows.refsMoreUptoRow.holds Try.pinned (Rows.OpenSpec.upto Rows.refsMoreSpec) :=
 OpenClaim.holds_of_cond 3 Try.f3 rfl rfl rfl rfl rfl rfl rfl ⟨rfl, rfl, rfl, rfl, rfl⟩ rfl rfl rfl rfl rfl named Try.func3 closed inst wrap
  (fun os started H enc _ F => by rw [OpenClaim.pre_of_none' rfl]; exact lifted os started H enc F)
theorem proved : Rows.RefsMoreUptoSaid := over
#print axioms proved
end Go.Proofs.Ytpjgpnfdadpkkaa.refsMoreUpto
