/-
  The law CleanupParts holds: the row, out of the contract law27_CleanupParts_ok of the function itself. No condition but the bulk of the arguments.
-/
import Derived.Test.YtkmbfmdhoeibhaaGreatRows
import Derived.Test.YtkmbfmdhoeibhaaGreatPkL1
import Derived.Test.YtkmbfmdhoeibhaaGreatPkL8
import Derived.WalkKit
import Derived.ProofKit
import Derived.OpenShut
import Derived.ShutString
import Derived.ChangeOld
import Derived.JoinedCond
import Derived.Below
import Derived.Carry
set_option linter.unusedVariables false
set_option linter.unusedSimpArgs false
set_option maxHeartbeats 2000000
namespace Go.Proofs.YtkmbfmdhoeibhaaGreat.cleanupPartsUpto
open Go Go.ChangeShapes Go.WideShapes Go.ChangeAt Go.RowKit Go.Vc
open Go.ChangeMaps (open_string shut_string)
theorem own:ownKnob Tryz.prog.godebug=none:=by kernel_rfl
theorem laid:laidOutB Tryz.prog=true:=by kernel_rfl
set_option maxRecDepth 100000 in
theorem contract (H:Type) (enc:TypeId×Value→H) (W:World) (base:Nat) (args:Array Value) (ds gs:List (DataW H)) (before:List MemPlace)
 (hval0: ∀ (j:Nat) t v,Tryz.f5.params[j]? =some t→args[j]? =some v→Value.okWide Tryz.prog W .any base t v)
 (hW:DataW.Whole enc Tryz.prog Tryz.f5.params.toList Rows.cleanupPartsSpec.vars false W args.toList ds gs before) (hk:Rows.uptoSmall H (ds++gs)=true):
 Calls Tryz.prog 5 args W λe W'=>∃v,e=.returned v∧Rows.cleanupPartsSpec.post enc Tryz.prog Tryz.f5 false true false false W args v W':=by
 have hval: ∀ (j:Nat) t v,Tryz.f5.params[j]? =some t→args[j]? =some v→Value.okWide Tryz.prog W .any base t v:=hval0
 have hW':=hW
 obtain⟨p,q,hA0,hV,rfl,hfz,hnd⟩:=hW
 have hA:DataW.TrodAll enc Tryz.prog W 0 (λ_=>true) true Tryz.f5.params.toList args.toList ds p:=hA0
 rw[Tryz.params5] at hA hval
 obtain⟨v0,vs0,d0,ds0,p0,q0,hargs,rfl,rfl,h0,r0⟩:=trodAll_cons hA
 obtain⟨v1,vs1,d1,ds1,p1,q1,rfl,rfl,rfl,h1,r1⟩:=trodAll_cons r0
 obtain⟨v2,vs2,d2,ds2,p2,q2,rfl,rfl,rfl,h2,r2⟩:=trodAll_cons r1
 obtain⟨v3,vs3,d3,ds3,p3,q3,rfl,rfl,rfl,h3,r3⟩:=trodAll_cons r2
 obtain⟨v4,vs4,d4,ds4,p4,q4,rfl,rfl,rfl,h4,r4⟩:=trodAll_cons r3
 obtain⟨rfl,rfl,rfl⟩:=trodAll_nil r4
 obtain rfl:args=#[v0,v1,v2,v3,v4]:=by cases args;simp_all
 obtain⟨rfl,rfl⟩:=trodVars_none hV
 have hB:BulkOk (H:=H) Rows.uptoBulk:=bulk_ok
 obtain⟨e0,rfl,_,_,w0⟩:=open_int Tryz.underlying22 (hval 0 22 v0 rfl rfl) h0
 obtain⟨c1,e1,rfl,s1,w1,b1⟩:=OpnAt.struct_arg (f:=ez) (opa_TJ0 hB) ((okWide_struct Tryz.underlying26 (hval 1 26 v1 rfl rfl)).imp λ_ h=>h.1) h1
 obtain⟨c2,e2,rfl,s2,w2,b2⟩:=OpnAt.struct_arg (f:=aW) (opa_TC0 hB) ((okWide_struct Tryz.underlying32 (hval 2 32 v2 rfl rfl)).imp λ_ h=>h.1) h2
 obtain⟨A3,cap3,e3,rfl,s3,w3,b3⟩:=OpnAt.slice_arg (sz:=8) hB Tryz.underlying24 kr (zY hB) (okWide_slice Tryz.underlying24 (hval 3 24 v3 rfl rfl)) h3
 obtain⟨e4,rfl,_,_,w4⟩:=open_int Tryz.underlying3 (hval 4 3 v4 rfl rfl) h4
 have hb1:dsz (ez e1)≤1048576:=Nat.le_trans b1 (Ar hk (by simp))
 have hb2:dsz (aW e2)≤1048576:=Nat.le_trans b2 (Ar hk (by simp))
 have hb3:dsz ((eL 8 aj) e3)≤1048576:=Nat.le_trans b3 (Ar hk (by simp))
 clear hA0 hval0
 simp only[List.append_nil] at hW'
 have l0: ∀x∈p0,x.block<W.heap.size:=λx hx=>by simpa using hW'.lt x (by simp[hx])
 have l1: ∀x∈p1,x.block<W.heap.size:=λx hx=>by simpa using hW'.lt x (by simp[hx])
 have l2: ∀x∈p2,x.block<W.heap.size:=λx hx=>by simpa using hW'.lt x (by simp[hx])
 have l3: ∀x∈p3,x.block<W.heap.size:=λx hx=>by simpa using hW'.lt x (by simp[hx])
 have l4: ∀x∈p4,x.block<W.heap.size:=λx hx=>by simpa using hW'.lt x (by simp[hx])
 have hcall:Calls Tryz.prog 5 #[iB e0,.agg c1.toArray,.agg c2.toArray,sL A3 e3 cap3,iL e4] W λe w'=>e=.returned (bO true)∧Below W.heap.size W w':=
  Ok.top (args:=[iB e0,.agg c1.toArray,.agg c2.toArray,sL A3 e3 cap3,iL e4]) (ub 100000000000000000000 (Mem.of W) e0 c1 e1 s1 c2 e2 s2 A3 cap3 e3 s3 e4 true (Go.Proofs.YtkmbfmdhoeibhaaGreat.parts27 e0 e1 e2 e3 e4 hb1 hb2 hb3))
 refine hcall.mono λe W' ⟨he,bel⟩=>?_
 subst he
 exact⟨_,rfl,_,_,_,[],_,[],hW',trodAll_mk1 (shut_bool Tryz.underlying4 _),(trodAll_cons_mk (Below.trod laid kr (of_decide_eq_true kr) h0 bel l0) (trodAll_cons_mk (Below.trod laid kr (of_decide_eq_true kr) h1 bel l1) (trodAll_cons_mk (Below.trod laid kr (of_decide_eq_true kr) h2 bel l2) (trodAll_cons_mk (Below.trod laid kr (of_decide_eq_true kr) h3 bel l3) (trodAll_cons_mk (Below.trod laid kr (of_decide_eq_true kr) h4 bel l4) trodAll_mk0))))),rfl,bel.frame _,λh=>by cases h⟩
set_option maxRecDepth 100000 in
theorem lifted (os:Os) (started:os.Started) (H:Type) (enc:TypeId×Value→H) (F:Stop.Interp):
 ReturnsInHanded {} Tryz.checked os 5 .any ((Rows.OpenSpec.upto Rows.cleanupPartsSpec).pre6 enc Tryz.prog Tryz.f5 Rows.cleanupPartsUptoRow.domain false) (((Rows.OpenSpec.upto Rows.cleanupPartsSpec).at F).post enc Tryz.prog Tryz.f5 false true false false):=by
 refine returnsInHanded_of_cond (C:=Tryz.checked) (s:=Rows.OpenSpec.upto Rows.cleanupPartsSpec) (k:=Rows.uptoSmall) rfl own started (by kernel_rfl) Tryz.func5
  (OpenSpec.witness (enc:=enc) (C:=Tryz.checked) (s:=Rows.OpenSpec.upto Rows.cleanupPartsSpec) (k:=Rows.uptoSmall) rfl false ⟨#[],#[.int .i8 0,.agg #[.slice none 0 0,.slice none 0 0,.slice none 0 0,.slice none 0 0,.string ⟨#[]⟩,.slice none 0 0,.int .i64 0,.int .i8 0],.agg #[.slice none 0 0,.slice none 0 0,.slice none 0 0,.slice none 0 0],.slice none 0 0,.int .i64 0],[]⟩ 8 (by kernel_rfl) (by kernel_rfl) (by kernel_rfl)
   (x:=([.lit (.int .i8 0),.agg [.nil,.nil,.nil,.nil,.lit (.string []),.nil,.lit (.int .i64 0),.lit (.int .i8 0)],.agg [.nil,.nil,.nil,.nil],.nil,.lit (.int .i64 0)],[],[])) (by kernel_rfl) rfl (by kernel_rfl)) ?_
 intro W base args ds gs before hval hW _ hk _
 exact contract H enc W base args ds gs before hval hW hk
theorem c0: (Rows.cleanupPartsUptoRow.wf (OpenSpec.ofChange (Rows.OpenSpec.upto Rows.cleanupPartsSpec).bare))=true:=by kernel_rfl
theorem c1: (laidOutB Tryz.pinned.checked.prog)=true:=by kernel_rfl
theorem c2: (mapsRowed Tryz.pinned.checked.prog)=true:=by kernel_rfl
theorem c3: (Tryz.f5.params.all (Tryz.pinned.checked.prog.readableRec ·))=true:=by kernel_rfl
theorem c4: (namedTie Tryz.pinned.checked.prog Rows.cleanupPartsUptoRow.named (Rows.OpenSpec.upto Rows.cleanupPartsSpec).bare.vars)=true:=by kernel_rfl
theorem c5: (Rows.cleanupPartsUptoRow.stops== [])=true:=by kernel_rfl
theorem c6: (Tryz.pinned.checked.prog.stops== [])=true:=by kernel_rfl
theorem c7: (Rows.cleanupPartsUptoRow.knobs== [])=true:=by kernel_rfl
theorem c8: (Tryz.pinned.checked.prog.stopKnobs== [])=true:=by kernel_rfl
theorem c9: (Rows.cleanupPartsUptoRow.inPlace==Tryz.pinned.checked.prog.inPlace 5)=true:=by kernel_rfl
theorem c10: (Rows.cleanupPartsUptoRow.unfollowed==Tryz.pinned.checked.prog.unfollowed 5)=true:=by kernel_rfl
theorem c11: (Rows.cleanupPartsUptoRow.recurses==Tryz.pinned.checked.prog.recurses 5)=true:=by kernel_rfl
theorem c12: (Rows.cleanupPartsUptoRow.named==Tryz.pinned.checked.prog.varsNamed 5)=true:=by kernel_rfl
theorem c13: ((Rows.cleanupPartsUptoRow.maps== (Tryz.f5.params.toList++(Rows.OpenSpec.upto Rows.cleanupPartsSpec).bare.plain.varTypes Tryz.pinned.checked.prog).any (Tryz.pinned.checked.prog.mapsRec ·)))=true:=by kernel_rfl
theorem c14: ((Rows.cleanupPartsUptoRow.ifaces== (Tryz.f5.params.toList++(Rows.OpenSpec.upto Rows.cleanupPartsSpec).bare.plain.varTypes Tryz.pinned.checked.prog).any (Tryz.pinned.checked.prog.ifacesRec ·)))=true:=by kernel_rfl
theorem c15: (Rows.cleanupPartsUptoRow.mapsOut==Tryz.pinned.checked.prog.mapsAmong Tryz.f5.resultTypes.toList)=true:=by kernel_rfl
theorem c16: ((Rows.cleanupPartsUptoRow.loops== (Tryz.f5.params.toList++(Rows.OpenSpec.upto Rows.cleanupPartsSpec).bare.plain.varTypes Tryz.pinned.checked.prog).any (Tryz.pinned.checked.prog.loopsFrom ·)))=true:=by kernel_rfl
theorem c17: ((Rows.cleanupPartsUptoRow.wideKeys== (Tryz.f5.params.toList++(Rows.OpenSpec.upto Rows.cleanupPartsSpec).bare.plain.varTypes Tryz.pinned.checked.prog++Tryz.f5.resultTypes.toList).any (Tryz.pinned.checked.prog.wideKeysFrom ·)))=true:=by kernel_rfl
theorem c18: ((Rows.OpenSpec.upto Rows.cleanupPartsSpec).bare.vars.all (Tryz.pinned.checked.prog.varReadable ·))=true:=by kernel_rfl
theorem c19: (Tryz.f5.resultTypes.all (λt=>Tryz.pinned.checked.prog.readableRec t&&decide (t<Tryz.pinned.checked.prog.types.size)))=true:=by kernel_rfl
theorem c20: ((Rows.cleanupPartsUptoRow.ifacesOut==Tryz.f5.resultTypes.toList.any (Tryz.pinned.checked.prog.ifacesRec ·)))=true:=by kernel_rfl
theorem c21: ((Rows.cleanupPartsUptoRow.loopsOut==Tryz.f5.resultTypes.toList.any (Tryz.pinned.checked.prog.loopsFrom ·)))=true:=by kernel_rfl
theorem c22: (Rows.cleanupPartsUptoRow.plainKeys==Tryz.pinned.checked.prog.plainKeys)=true:=by kernel_rfl
theorem c23: (Rows.cleanupPartsUptoRow.shortTexts.isNone)=true:=by kernel_rfl
theorem c24: (Tryz.pinned.checked.prog.stopsHeard)=true:=by kernel_rfl
theorem c25: (Tryz.pinned.checked.prog.mayEnter)=true:=by kernel_rfl
theorem c26: (Rows.cleanupPartsUptoRow.lifted==Tryz.pinned.checked.prog.liftsFinal)=true:=by kernel_rfl
theorem c27: (Tryz.pinned.checked.prog.make==some Rows.cleanupPartsUptoRow.make)=true:=by kernel_rfl
theorem c29: (Rows.cleanupPartsUptoRow.pinned==Rows.cleanupPartsUptoRow.pinnedBy)=true:=by kernel_rfl
theorem c30: ((Rows.cleanupPartsUptoRow.veiled== (Tryz.f5.params.toList++(Rows.OpenSpec.upto Rows.cleanupPartsSpec).bare.plain.varTypes Tryz.pinned.checked.prog++Tryz.f5.resultTypes.toList).any (Tryz.pinned.checked.prog.veiledRec ·)))=true:=by kernel_rfl
theorem c31: (Rows.cleanupPartsUptoRow.veiledFits Tryz.pinned.checked.prog Tryz.f5.params.toList (Tryz.f5.params.toList++(Rows.OpenSpec.upto Rows.cleanupPartsSpec).bare.plain.varTypes Tryz.pinned.checked.prog++Tryz.f5.resultTypes.toList))=true:=by kernel_rfl
theorem mk2 {a b:Bool} (h:a=true) (k:b=true): (a&&b)=true:=by rw[h,k];rfl
theorem closed:joinedFacts Tryz.pinned.checked.prog 5 Tryz.f5 (Rows.OpenSpec.upto Rows.cleanupPartsSpec).bare Rows.cleanupPartsUptoRow=true:=by
 unfold joinedFacts
 exact(mk2 (mk2 (mk2 (mk2 (mk2 (mk2 (mk2 (mk2 (mk2 (mk2 (mk2 (mk2 (mk2 (mk2 (mk2 (mk2 (mk2 (mk2 (mk2 (mk2 (mk2 (mk2 (mk2 (mk2 (mk2 (mk2 (mk2 (mk2 (mk2 (mk2 (mk2 c0 c1) c2) c3) c4) c5) c6) c7) c8) c9) c10) c11) c12) c13) c14) c15) c16) c17) c18) c19) c20) c21) c22) c23) c24) c25) c26) c27) kr) c29) c30) c31)
theorem inst:Tryz.f5.isInstance Tryz.pinned.checked.prog Rows.cleanupPartsUptoRow.origin Rows.cleanupPartsUptoRow.targs:=of_decide_eq_true kr
theorem wrap:Tryz.f5.isWrapper Tryz.pinned.checked.prog Rows.cleanupPartsUptoRow.wrapper Rows.cleanupPartsUptoRow.mainSum:=by unfold Func.isWrapper;first|(rw[if_pos (by decide+kernel)];kernel_rfl)|(rw[if_neg (by decide+kernel)];exact⟨rfl,rfl⟩)
theorem named:Tryz.pinned.checked.prog.funcNamed Rows.cleanupPartsUptoRow.func=some 5:=by kernel_rfl
theorem over:Rows.cleanupPartsUptoRow.holds Tryz.pinned (Rows.OpenSpec.upto Rows.cleanupPartsSpec):=
 OpenClaim.holds_of_cond 5 Tryz.f5 rfl rfl rfl rfl rfl rfl rfl ⟨rfl,rfl,rfl,rfl,rfl⟩ rfl rfl rfl rfl rfl named Tryz.func5 closed inst wrap
  (λos started H enc _ F=>by rw[OpenClaim.pre_of_none' rfl];exact lifted os started H enc F)
theorem proved:Rows.CleanupPartsUptoSaid:=over
#print axioms proved
end Go.Proofs.YtkmbfmdhoeibhaaGreat.cleanupPartsUpto
