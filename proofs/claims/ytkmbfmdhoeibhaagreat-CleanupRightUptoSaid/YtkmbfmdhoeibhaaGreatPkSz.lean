/-
  The law CleanupRight holds: the row, out of the contract law27_CleanupRight_ok of the function itself. No condition but the bulk of the arguments.
-/
import Derived.Test.YtkmbfmdhoeibhaaGreatRows
import Derived.Test.YtkmbfmdhoeibhaaGreatPkS1
import Derived.Test.YtkmbfmdhoeibhaaGreatPkS8
import Derived.WalkKit
import Derived.ProofKit
import Derived.OpenShut
import Derived.ShutString
import Derived.ChangeOld
import Derived.JoinedCond
import Derived.Below
import Derived.Carry
set_option linter.unusedVariables false
set_option linter.unusedSimpArgs false
set_option maxHeartbeats 2000000
namespace Go.Proofs.YtkmbfmdhoeibhaaGreat.cleanupRightUpto
open Go Go.ChangeShapes Go.WideShapes Go.ChangeAt Go.RowKit Go.Vc
open Go.ChangeMaps (open_string shut_string)
theorem own:ownKnob Tryz.prog.godebug=none:=by kernel_rfl
theorem laid:laidOutB Tryz.prog=true:=by kernel_rfl
set_option maxRecDepth 100000 in
theorem contract (H:Type) (enc:TypeId×Value→H) (W:World) (base:Nat) (args:Array Value) (ds gs:List (DataW H)) (before:List MemPlace)
 (hval0: ∀ (j:Nat) t v,Tryz.f3.params[j]? =some t→args[j]? =some v→Value.okWide Tryz.prog W .any base t v)
 (hW:DataW.Whole enc Tryz.prog Tryz.f3.params.toList Rows.cleanupRightSpec.vars false W args.toList ds gs before) (hk:Rows.uptoSmall H (ds++gs)=true):
 Calls Tryz.prog 3 args W λe W'=>∃v,e=.returned v∧Rows.cleanupRightSpec.post enc Tryz.prog Tryz.f3 false true false false W args v W':=by
 have hval: ∀ (j:Nat) t v,Tryz.f3.params[j]? =some t→args[j]? =some v→Value.okWide Tryz.prog W .any base t v:=hval0
 have hW':=hW
 obtain⟨p,q,hA0,hV,rfl,hfz,hnd⟩:=hW
 have hA:DataW.TrodAll enc Tryz.prog W 0 (λ_=>true) true Tryz.f3.params.toList args.toList ds p:=hA0
 rw[Tryz.params3] at hA hval
 obtain⟨v0,vs0,d0,ds0,p0,q0,hargs,rfl,rfl,h0,r0⟩:=trodAll_cons hA
 obtain⟨v1,vs1,d1,ds1,p1,q1,rfl,rfl,rfl,h1,r1⟩:=trodAll_cons r0
 obtain⟨v2,vs2,d2,ds2,p2,q2,rfl,rfl,rfl,h2,r2⟩:=trodAll_cons r1
 obtain⟨v3,vs3,d3,ds3,p3,q3,rfl,rfl,rfl,h3,r3⟩:=trodAll_cons r2
 obtain⟨v4,vs4,d4,ds4,p4,q4,rfl,rfl,rfl,h4,r4⟩:=trodAll_cons r3
 obtain⟨v5,vs5,d5,ds5,p5,q5,rfl,rfl,rfl,h5,r5⟩:=trodAll_cons r4
 obtain⟨rfl,rfl,rfl⟩:=trodAll_nil r5
 obtain rfl:args=#[v0,v1,v2,v3,v4,v5]:=by cases args;simp_all
 obtain⟨rfl,rfl⟩:=trodVars_none hV
 have hB:BulkOk (H:=H) Rows.uptoBulk:=bulk_ok
 obtain⟨e0,rfl,_,_,w0⟩:=open_int Tryz.underlying22 (hval 0 22 v0 rfl rfl) h0
 obtain⟨c1,e1,rfl,s1,w1,b1⟩:=OpnAt.struct_arg (f:=gd) (opa_TL0 hB) ((okWide_struct Tryz.underlying26 (hval 1 26 v1 rfl rfl)).imp λ_ h=>h.1) h1
 obtain⟨c2,e2,rfl,s2,w2,b2⟩:=OpnAt.struct_arg (f:=ba) (opa_TB0 hB) ((okWide_struct Tryz.underlying32 (hval 2 32 v2 rfl rfl)).imp λ_ h=>h.1) h2
 obtain⟨A3,cap3,e3,rfl,s3,w3,b3⟩:=OpnAt.slice_arg (sz:=8) hB Tryz.underlying24 kr (AN hB) (okWide_slice Tryz.underlying24 (hval 3 24 v3 rfl rfl)) h3
 obtain⟨e4,rfl,_,_,w4⟩:=open_int Tryz.underlying3 (hval 4 3 v4 rfl rfl) h4
 obtain⟨A5,cap5,e5,rfl,s5,w5,b5⟩:=OpnAt.slice_arg (sz:=3) hB Tryz.underlying33 kr (opa_TA0 hB) (okWide_slice Tryz.underlying33 (hval 5 33 v5 rfl rfl)) h5
 have hb1:dsz (gd e1)≤1048576:=Nat.le_trans b1 (xR hk (by simp))
 have hb2:dsz (ba e2)≤1048576:=Nat.le_trans b2 (xR hk (by simp))
 have hb3:dsz ((eL 8 aj) e3)≤1048576:=Nat.le_trans b3 (xR hk (by simp))
 have hb5:dsz ((eL 3 lV) e5)≤1048576:=Nat.le_trans b5 (xR hk (by simp))
 clear hA0 hval0
 simp only[List.append_nil] at hW'
 have l0: ∀x∈p0,x.block<W.heap.size:=λx hx=>by simpa using hW'.lt x (by simp[hx])
 have l1: ∀x∈p1,x.block<W.heap.size:=λx hx=>by simpa using hW'.lt x (by simp[hx])
 have l2: ∀x∈p2,x.block<W.heap.size:=λx hx=>by simpa using hW'.lt x (by simp[hx])
 have l3: ∀x∈p3,x.block<W.heap.size:=λx hx=>by simpa using hW'.lt x (by simp[hx])
 have l4: ∀x∈p4,x.block<W.heap.size:=λx hx=>by simpa using hW'.lt x (by simp[hx])
 have l5: ∀x∈p5,x.block<W.heap.size:=λx hx=>by simpa using hW'.lt x (by simp[hx])
 have hcall:Calls Tryz.prog 3 #[iB e0,.agg c1.toArray,.agg c2.toArray,sL A3 e3 cap3,iL e4,sL A5 e5 cap5] W λe w'=>e=.returned (bO true)∧Below W.heap.size W w':=
  Ok.top (args:=[iB e0,.agg c1.toArray,.agg c2.toArray,sL A3 e3 cap3,iL e4,sL A5 e5 cap5]) (uO 100000000000000000000 (Mem.of W) e0 c1 e1 s1 c2 e2 s2 A3 cap3 e3 s3 e4 A5 cap5 e5 s5 true (Go.Proofs.YtkmbfmdhoeibhaaGreat.right27 e0 e1 e2 e3 e4 e5 hb1 hb2 hb3 hb5))
 refine hcall.mono λe W' ⟨he,bel⟩=>?_
 subst he
 exact⟨_,rfl,_,_,_,[],_,[],hW',trodAll_mk1 (shut_bool Tryz.underlying4 _),(trodAll_cons_mk (Below.trod laid kr (of_decide_eq_true kr) h0 bel l0) (trodAll_cons_mk (Below.trod laid kr (of_decide_eq_true kr) h1 bel l1) (trodAll_cons_mk (Below.trod laid kr (of_decide_eq_true kr) h2 bel l2) (trodAll_cons_mk (Below.trod laid kr (of_decide_eq_true kr) h3 bel l3) (trodAll_cons_mk (Below.trod laid kr (of_decide_eq_true kr) h4 bel l4) (trodAll_cons_mk (Below.trod laid kr (of_decide_eq_true kr) h5 bel l5) trodAll_mk0)))))),rfl,bel.frame _,λh=>by cases h⟩
set_option maxRecDepth 100000 in
theorem lifted (os:Os) (started:os.Started) (H:Type) (enc:TypeId×Value→H) (F:Stop.Interp):
 ReturnsInHanded {} Tryz.checked os 3 .any ((Rows.OpenSpec.upto Rows.cleanupRightSpec).pre6 enc Tryz.prog Tryz.f3 Rows.cleanupRightUptoRow.domain false) (((Rows.OpenSpec.upto Rows.cleanupRightSpec).at F).post enc Tryz.prog Tryz.f3 false true false false):=by
 refine returnsInHanded_of_cond (C:=Tryz.checked) (s:=Rows.OpenSpec.upto Rows.cleanupRightSpec) (k:=Rows.uptoSmall) rfl own started (by kernel_rfl) Tryz.func3
  (OpenSpec.witness (enc:=enc) (C:=Tryz.checked) (s:=Rows.OpenSpec.upto Rows.cleanupRightSpec) (k:=Rows.uptoSmall) rfl false ⟨#[],#[.int .i8 0,.agg #[.slice none 0 0,.slice none 0 0,.slice none 0 0,.slice none 0 0,.string ⟨#[]⟩,.slice none 0 0,.int .i64 0,.int .i8 0],.agg #[.slice none 0 0,.slice none 0 0,.slice none 0 0,.slice none 0 0],.slice none 0 0,.int .i64 0,.slice none 0 0],[]⟩ 8 (by kernel_rfl) (by kernel_rfl) (by kernel_rfl)
   (x:=([.lit (.int .i8 0),.agg [.nil,.nil,.nil,.nil,.lit (.string []),.nil,.lit (.int .i64 0),.lit (.int .i8 0)],.agg [.nil,.nil,.nil,.nil],.nil,.lit (.int .i64 0),.nil],[],[])) (by kernel_rfl) rfl (by kernel_rfl)) ?_
 intro W base args ds gs before hval hW _ hk _
 exact contract H enc W base args ds gs before hval hW hk
theorem c0: (Rows.cleanupRightUptoRow.wf (OpenSpec.ofChange (Rows.OpenSpec.upto Rows.cleanupRightSpec).bare))=true:=by kernel_rfl
theorem c1: (laidOutB Tryz.pinned.checked.prog)=true:=by kernel_rfl
theorem c2: (mapsRowed Tryz.pinned.checked.prog)=true:=by kernel_rfl
theorem c3: (Tryz.f3.params.all (Tryz.pinned.checked.prog.readableRec ·))=true:=by kernel_rfl
theorem c4: (namedTie Tryz.pinned.checked.prog Rows.cleanupRightUptoRow.named (Rows.OpenSpec.upto Rows.cleanupRightSpec).bare.vars)=true:=by kernel_rfl
theorem c5: (Rows.cleanupRightUptoRow.stops== [])=true:=by kernel_rfl
theorem c6: (Tryz.pinned.checked.prog.stops== [])=true:=by kernel_rfl
theorem c7: (Rows.cleanupRightUptoRow.knobs== [])=true:=by kernel_rfl
theorem c8: (Tryz.pinned.checked.prog.stopKnobs== [])=true:=by kernel_rfl
theorem c9: (Rows.cleanupRightUptoRow.inPlace==Tryz.pinned.checked.prog.inPlace 3)=true:=by kernel_rfl
theorem c10: (Rows.cleanupRightUptoRow.unfollowed==Tryz.pinned.checked.prog.unfollowed 3)=true:=by kernel_rfl
theorem c11: (Rows.cleanupRightUptoRow.recurses==Tryz.pinned.checked.prog.recurses 3)=true:=by kernel_rfl
theorem c12: (Rows.cleanupRightUptoRow.named==Tryz.pinned.checked.prog.varsNamed 3)=true:=by kernel_rfl
theorem c13: ((Rows.cleanupRightUptoRow.maps== (Tryz.f3.params.toList++(Rows.OpenSpec.upto Rows.cleanupRightSpec).bare.plain.varTypes Tryz.pinned.checked.prog).any (Tryz.pinned.checked.prog.mapsRec ·)))=true:=by kernel_rfl
theorem c14: ((Rows.cleanupRightUptoRow.ifaces== (Tryz.f3.params.toList++(Rows.OpenSpec.upto Rows.cleanupRightSpec).bare.plain.varTypes Tryz.pinned.checked.prog).any (Tryz.pinned.checked.prog.ifacesRec ·)))=true:=by kernel_rfl
theorem c15: (Rows.cleanupRightUptoRow.mapsOut==Tryz.pinned.checked.prog.mapsAmong Tryz.f3.resultTypes.toList)=true:=by kernel_rfl
theorem c16: ((Rows.cleanupRightUptoRow.loops== (Tryz.f3.params.toList++(Rows.OpenSpec.upto Rows.cleanupRightSpec).bare.plain.varTypes Tryz.pinned.checked.prog).any (Tryz.pinned.checked.prog.loopsFrom ·)))=true:=by kernel_rfl
theorem c17: ((Rows.cleanupRightUptoRow.wideKeys== (Tryz.f3.params.toList++(Rows.OpenSpec.upto Rows.cleanupRightSpec).bare.plain.varTypes Tryz.pinned.checked.prog++Tryz.f3.resultTypes.toList).any (Tryz.pinned.checked.prog.wideKeysFrom ·)))=true:=by kernel_rfl
theorem c18: ((Rows.OpenSpec.upto Rows.cleanupRightSpec).bare.vars.all (Tryz.pinned.checked.prog.varReadable ·))=true:=by kernel_rfl
theorem c19: (Tryz.f3.resultTypes.all (λt=>Tryz.pinned.checked.prog.readableRec t&&decide (t<Tryz.pinned.checked.prog.types.size)))=true:=by kernel_rfl
theorem c20: ((Rows.cleanupRightUptoRow.ifacesOut==Tryz.f3.resultTypes.toList.any (Tryz.pinned.checked.prog.ifacesRec ·)))=true:=by kernel_rfl
theorem c21: ((Rows.cleanupRightUptoRow.loopsOut==Tryz.f3.resultTypes.toList.any (Tryz.pinned.checked.prog.loopsFrom ·)))=true:=by kernel_rfl
theorem c22: (Rows.cleanupRightUptoRow.plainKeys==Tryz.pinned.checked.prog.plainKeys)=true:=by kernel_rfl
theorem c23: (Rows.cleanupRightUptoRow.shortTexts.isNone)=true:=by kernel_rfl
theorem c24: (Tryz.pinned.checked.prog.stopsHeard)=true:=by kernel_rfl
theorem c25: (Tryz.pinned.checked.prog.mayEnter)=true:=by kernel_rfl
theorem c26: (Rows.cleanupRightUptoRow.lifted==Tryz.pinned.checked.prog.liftsFinal)=true:=by kernel_rfl
theorem c27: (Tryz.pinned.checked.prog.make==some Rows.cleanupRightUptoRow.make)=true:=by kernel_rfl
theorem c29: (Rows.cleanupRightUptoRow.pinned==Rows.cleanupRightUptoRow.pinnedBy)=true:=by kernel_rfl
theorem c30: ((Rows.cleanupRightUptoRow.veiled== (Tryz.f3.params.toList++(Rows.OpenSpec.upto Rows.cleanupRightSpec).bare.plain.varTypes Tryz.pinned.checked.prog++Tryz.f3.resultTypes.toList).any (Tryz.pinned.checked.prog.veiledRec ·)))=true:=by kernel_rfl
theorem c31: (Rows.cleanupRightUptoRow.veiledFits Tryz.pinned.checked.prog Tryz.f3.params.toList (Tryz.f3.params.toList++(Rows.OpenSpec.upto Rows.cleanupRightSpec).bare.plain.varTypes Tryz.pinned.checked.prog++Tryz.f3.resultTypes.toList))=true:=by kernel_rfl
theorem mk2 {a b:Bool} (h:a=true) (k:b=true): (a&&b)=true:=by rw[h,k];rfl
theorem closed:joinedFacts Tryz.pinned.checked.prog 3 Tryz.f3 (Rows.OpenSpec.upto Rows.cleanupRightSpec).bare Rows.cleanupRightUptoRow=true:=by
 unfold joinedFacts
 exact(mk2 (mk2 (mk2 (mk2 (mk2 (mk2 (mk2 (mk2 (mk2 (mk2 (mk2 (mk2 (mk2 (mk2 (mk2 (mk2 (mk2 (mk2 (mk2 (mk2 (mk2 (mk2 (mk2 (mk2 (mk2 (mk2 (mk2 (mk2 (mk2 (mk2 (mk2 c0 c1) c2) c3) c4) c5) c6) c7) c8) c9) c10) c11) c12) c13) c14) c15) c16) c17) c18) c19) c20) c21) c22) c23) c24) c25) c26) c27) kr) c29) c30) c31)
theorem inst:Tryz.f3.isInstance Tryz.pinned.checked.prog Rows.cleanupRightUptoRow.origin Rows.cleanupRightUptoRow.targs:=of_decide_eq_true kr
theorem wrap:Tryz.f3.isWrapper Tryz.pinned.checked.prog Rows.cleanupRightUptoRow.wrapper Rows.cleanupRightUptoRow.mainSum:=by unfold Func.isWrapper;first|(rw[if_pos (by decide+kernel)];kernel_rfl)|(rw[if_neg (by decide+kernel)];exact⟨rfl,rfl⟩)
theorem named:Tryz.pinned.checked.prog.funcNamed Rows.cleanupRightUptoRow.func=some 3:=by kernel_rfl
theorem over:Rows.cleanupRightUptoRow.holds Tryz.pinned (Rows.OpenSpec.upto Rows.cleanupRightSpec):=
 OpenClaim.holds_of_cond 3 Tryz.f3 rfl rfl rfl rfl rfl rfl rfl ⟨rfl,rfl,rfl,rfl,rfl⟩ rfl rfl rfl rfl rfl named Tryz.func3 closed inst wrap
  (λos started H enc _ F=>by rw[OpenClaim.pre_of_none' rfl];exact lifted os started H enc F)
theorem proved:Rows.CleanupRightUptoSaid:=over
#print axioms proved
end Go.Proofs.YtkmbfmdhoeibhaaGreat.cleanupRightUpto
