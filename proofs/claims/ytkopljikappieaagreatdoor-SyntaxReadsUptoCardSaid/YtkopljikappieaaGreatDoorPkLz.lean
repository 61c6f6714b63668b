/-
  The law SyntaxReads holds: the row over the listed tables, out of the contract law13_SyntaxReads_ok of the function itself, and its tied card. No condition but the bulk of the arguments.
-/
import Derived.Test.YtkopljikappieaaGreatDoorRows
import Derived.Test.YtkopljikappieaaGreatDoorCards
import Derived.Test.YtkopljikappieaaGreatDoorTie
import Derived.Test.YtkopljikappieaaGreatDoorPkL1
import Derived.Test.YtkopljikappieaaGreatDoorPkL9
import Derived.WalkKit
import Derived.ProofKit
import Derived.OpenShut
import Derived.ShutString
import Derived.ChangeOld
import Derived.Below
import Derived.Carry
import Derived.Deep.DeepHandedRow
import Derived.Lib.LaidU8T
import Derived.PinnedBridge
import Derived.Shelf.Vars
import Derived.SevenTiedAt
set_option linter.unusedVariables false
set_option linter.unusedSimpArgs false
set_option maxHeartbeats 2000000
namespace Go.Proofs.YtkopljikappieaaGreatDoor.syntaxReadsUpto
open Go Go.ChangeShapes Go.WideShapes Go.ChangeAt Go.RowKit Go.Vc
open Go.ChangeMaps (open_string shut_string)
theorem own:ownKnob Tryz.prog.godebug=none:=by kernel_rfl
theorem laid:laidOutB Tryz.prog=true:=by kernel_rfl
theorem acc_eq: (Rows.laid_unicode_utf8_acceptRanges:DataW Unit)=Lib.acceptData:=by kernel_rfl
theorem first_eq: (Rows.laid_unicode_utf8_first:DataW Unit)=Lib.firstData:=Pinned.utf8First_eq
theorem known {W:World} (hL:laidMetH Tryz.prog Rows.syntaxReadsUptoRow.laid W) (hsh:W.ShapedOpen Tryz.prog):GL (Mem.of W):=by
 have h1:Lib.VarReads Tryz.prog W "unicode/utf8.first" Lib.firstData:=by rw[←first_eq];exact Lib.laidMet.reads hL (.tail _ (.head _))
 have h2:Lib.VarReads Tryz.prog W "unicode/utf8.acceptRanges" Lib.acceptData:=by rw[←acc_eq];exact Lib.laidMet.reads hL (.head _)
 have ht:Lib.Utf8Tabs 0 1 W:=utf8Tabs_of_readsT (ρ:=Tryz.lays196_ren) (U8Types.of196 Tryz.lays196) ⟨by kernel_rfl,by kernel_rfl,by kernel_rfl,by kernel_rfl,by kernel_rfl,by kernel_rfl,by kernel_rfl⟩ h1 h2
 obtain⟨m,hm⟩:=cell_of_shapedOpen_int (P:=Tryz.prog) (g:=2) (t:=3) (zero:=#[iL 0]) (k:=.i64) hsh (of_decide_eq_true kr) kr rfl kr kr Tryz.underlying3
 exact⟨⟨ht.1,ht.2⟩,m,hm⟩
set_option maxRecDepth 100000 in
theorem contract (H:Type) (enc:TypeId×Value→H) (W:World) (base:Nat) (args:Array Value) (ds gs:List (DataW H)) (before:List MemPlace)
 (hval0: ∀ (j:Nat) t v,Tryz.f4.params[j]? =some t→args[j]? =some v→Value.okWide Tryz.prog W .any base t v)
 (hW:DataW.Whole enc Tryz.prog Tryz.f4.params.toList Rows.syntaxReadsSpec.vars false W args.toList ds gs before) (hL:laidMetH Tryz.prog Rows.syntaxReadsUptoRow.laid W) (hsh:W.ShapedOpen Tryz.prog) (hk:Rows.uptoSmall H (ds++gs)=true):
 Calls Tryz.prog 4 args W λe W'=>∃v,e=.returned v∧Rows.syntaxReadsSpec.post enc Tryz.prog Tryz.f4 false true false false W args v W':=by
 have hG:=known hL hsh
 have hval: ∀ (j:Nat) t v,Tryz.f4.params[j]? =some t→args[j]? =some v→Value.okWide Tryz.prog W .any base t v:=hval0
 have hW':=hW
 obtain⟨p,q,hA0,hV,rfl,hfz,hnd⟩:=hW
 have hA:DataW.TrodAll enc Tryz.prog W 0 (λ_=>true) true Tryz.f4.params.toList args.toList ds p:=hA0
 rw[Tryz.params4] at hA hval
 obtain⟨v0,vs0,d0,ds0,p0,q0,hargs,rfl,rfl,h0,r0⟩:=trodAll_cons hA
 obtain⟨rfl,rfl,rfl⟩:=trodAll_nil r0
 obtain rfl:args=#[v0]:=by cases args;simp_all
 obtain⟨rfl,rfl⟩:=trodVars_none hV
 have hB:BulkOk (H:=H) Rows.uptoBulk:=bulk_ok
 obtain⟨c0,e0,rfl,s0,w0,b0⟩:=OpnAt.struct_arg (f:=ai) (opa_TE0 hB) ((okWide_struct Tryz.underlying26 (hval 0 26 v0 rfl rfl)).imp λ_ h=>h.1) h0
 have hb0:dsz (ai e0)≤1048576:=Nat.le_trans b0 (bulk_one hk (by simp))
 clear hA0 hval0
 simp only[List.append_nil] at hW'
 have l0: ∀x∈p0,x.block<W.heap.size:=λx hx=>by simpa using hW'.lt x (by simp[hx])
 have hcall:Calls Tryz.prog 4 #[.agg c0.toArray] W λe w'=>e=.returned (bO true)∧Below W.heap.size W w':=
  Ok.top (args:=[.agg c0.toArray]) (nM 100000 (Mem.of W) hG c0 e0 s0 true (Go.Proofs.YtkopljikappieaaGreatDoor.reads_law e0))
 refine hcall.mono λe W' ⟨he,bel⟩=>?_
 subst he
 exact⟨_,rfl,_,_,_,[],_,[],hW',trodAll_mk1 (shut_bool Tryz.underlying4 _),(trodAll_cons_mk (Below.trod laid kr (of_decide_eq_true kr) h0 bel l0) trodAll_mk0),rfl,bel.frame _,λh=>by cases h⟩
noncomputable def laidWorld (os:Os):World:=
 let w0:=World.holding Tryz.prog os ⟨#[],#[],[]⟩
 let put (h:Array Obj) (g:Nat) (cs:Array Value):Array Obj:=h.modify g λ
  |.cells _ t frozen=>.cells cs t frozen
  |o=>o
 let h0:=w0.heap
 let h1:=put h0 1 ((List.range 16).flatMap λi=>[Value.int .u8 (Lib.accLo i),Value.int .u8 (Lib.accHi i)]).toArray
 let h2:=put h1 0 (Lib.firstTab.map λz=>Value.int .u8 z).toArray
 {w0 with heap:=h2}
theorem laid_met (os:Os):laidMet Tryz.prog Rows.syntaxReadsUptoRow.laid ((laidWorld os).forCall (λ_ _=>0) ⟨#[],#[.agg #[iB 0,bO false,iL 0,.string ⟨#[]⟩,Sn,Sn]],[]⟩).memory:=
 laidMet_of_run' 10 kr kr
theorem reads (os:Os) {H:Type} (enc:TypeId×Value→H): ∃places,DataW.whole enc Tryz.prog ((laidWorld os).forCall (λ_ _=>0) ⟨#[],#[.agg #[.int .i8 0,.bool false,.int .i64 0,.string ⟨#[]⟩,.slice none 0 0,.slice none 0 0]],[]⟩).memory Tryz.f4.params.toList Rows.syntaxReadsSpec.vars false (#[.agg #[.int .i8 0,.bool false,.int .i64 0,.string ⟨#[]⟩,.slice none 0 0,.slice none 0 0]]:Array Value).toList 8=some ([.agg [.lit (.int .i8 0),.lit (.bool false),.lit (.int .i64 0),.lit (.string []),.nil,.nil]],[],places):=
 ⟨[],by kernel_rfl⟩
set_option maxRecDepth 100000 in
theorem lifted (os:Os) (started:os.Started) (H:Type) (enc:TypeId×Value→H) (F:Stop.Interp):
 ReturnsInHanded {} Tryz.checked os 4 .any ((Rows.OpenSpec.upto Rows.syntaxReadsSpec).preRow enc Tryz.prog Tryz.f4 Rows.syntaxReadsUptoRow.domain false Rows.syntaxReadsUptoRow.laid) (((Rows.OpenSpec.upto Rows.syntaxReadsSpec).at F).post enc Tryz.prog Tryz.f4 false true false false):=by
 obtain⟨places,hx⟩:=reads os enc
 refine returnsInHanded_of_row (C:=Tryz.checked) (s:=(Rows.OpenSpec.upto Rows.syntaxReadsSpec)) own started kr Tryz.func4
  (witness_row_at (enc:=enc) (C:=Tryz.checked) false (laidWorld os) #[.agg #[iB 0,bO false,iL 0,.string ⟨#[]⟩,Sn,Sn]] rfl kr kr kr
   (OpenSpec.preRow_of_cond 8 hx kr (λk hk=>by cases hk;kernel_rfl) kr (laid_met os))) ?_
 intro W base args ds gs before hval hW _ hcond hsz hL hsh _
 exact contract H enc W base args ds gs before hval hW hL hsh (hcond _ rfl)
theorem said:Rows.SyntaxReadsUptoSaid:=
 OpenClaim.holds_of_cond 4 Tryz.f4 rfl rfl rfl rfl rfl rfl rfl ⟨rfl,rfl,rfl,rfl,rfl⟩ rfl rfl rfl rfl rfl kr Tryz.func4 kr
  (of_decide_eq_true kr) (by unfold Func.isWrapper;first|(rw[if_pos (by decide+kernel)];kernel_rfl)|(rw[if_neg (by decide+kernel)];exact⟨rfl,rfl⟩))
  (λos started H enc _ F=>by rw[OpenClaim.pre_eq_preRow];exact lifted os started H enc F)
theorem plain (f:FuncId) (fn:Func) (hf:Tryz.pinned.checked.prog.funcNamed "hoarding/hoardinglaw13.SyntaxReads"=some f) (hfn:Tryz.pinned.checked.prog.funcs[f]? =some fn):
 true=Tryz.pinned.checked.prog.looks []∧∀ (j:Nat) t,fn.params[j]? =some t→Tryz.pinned.checked.prog.wantsStandIn t=false:=by
 obtain rfl:f=4:=Option.some.inj ((show Tryz.prog.funcNamed "hoarding/hoardinglaw13.SyntaxReads"=some 4 by kernel_rfl).symm.trans hf) |>.symm
 obtain rfl:fn=Tryz.f4:=(Option.some.inj (Tryz.func4.symm.trans hfn)).symm
 refine⟨by kernel_rfl,λj t ht=>?_⟩
 rw[Tryz.params4] at ht
 have hm:t∈ [26]:=by simpa using Array.mem_of_getElem? ht
 have hall: ([26].all λu=> !Tryz.prog.wantsStandIn u)=true:=by kernel_rfl
 exact(show Tryz.prog.wantsStandIn t=false by simpa using List.all_eq_true.1 hall t hm)
theorem proved:Rows.SyntaxReadsUptoCardSaid:=
 Claim7.holds_tied_plain_at .later [] _ _ _ _ said (λ_ h=>by cases h) kr (λ_ h=>by cases h) syntaxReadsUpto_row_tie rfl ⟨rfl,rfl⟩ kr rfl plain kr
#print axioms proved
end Go.Proofs.YtkopljikappieaaGreatDoor.syntaxReadsUpto
