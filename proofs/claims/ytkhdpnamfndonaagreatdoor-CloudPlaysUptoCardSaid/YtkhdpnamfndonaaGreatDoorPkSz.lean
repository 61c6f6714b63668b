/-
  The law CloudPlays holds: the row over the listed tables, out of the contract law11_CloudPlays_ok of the function itself, and its tied card. No condition but the bulk of the arguments.
-/
import Derived.Test.YtkhdpnamfndonaaGreatDoorRows
import Derived.Test.YtkhdpnamfndonaaGreatDoorCards
import Derived.Test.YtkhdpnamfndonaaGreatDoorTie
import Derived.Test.YtkhdpnamfndonaaGreatDoorPkS1
import Derived.Test.YtkhdpnamfndonaaGreatDoorPkS8
import Derived.Test.YtkhdpnamfndonaaGreatDoorPkS9
import Derived.WalkKit
import Derived.ProofKit
import Derived.OpenShut
import Derived.ShutString
import Derived.ChangeOld
import Derived.Below
import Derived.Carry
import Derived.Deep.DeepHandedRow
import Derived.Lib.LaidU8T
import Derived.PinnedBridge
import Derived.Shelf.Vars
import Derived.SevenTiedAt
set_option linter.unusedVariables false
set_option linter.unusedSimpArgs false
set_option maxHeartbeats 2000000
namespace Go.Proofs.YtkhdpnamfndonaaGreatDoor.cloudPlaysUpto
open Go Go.ChangeShapes Go.WideShapes Go.ChangeAt Go.RowKit Go.Vc
open Go.ChangeMaps (open_string shut_string)
theorem own:ownKnob Tryz.prog.godebug=none:=by kernel_rfl
theorem laid:laidOutB Tryz.prog=true:=by kernel_rfl
theorem acc_eq: (Rows.laid_unicode_utf8_acceptRanges:DataW Unit)=Lib.acceptData:=by kernel_rfl
theorem first_eq: (Rows.laid_unicode_utf8_first:DataW Unit)=Lib.firstData:=Pinned.utf8First_eq
theorem known {W:World} (hL:laidMetH Tryz.prog Rows.cloudPlaysUptoRow.laid W) (hsh:W.ShapedOpen Tryz.prog):GL (Mem.of W):=by
 have h1:Lib.VarReads Tryz.prog W "unicode/utf8.first" Lib.firstData:=by rw[←first_eq];exact Lib.laidMet.reads hL (.tail _ (.head _))
 have h2:Lib.VarReads Tryz.prog W "unicode/utf8.acceptRanges" Lib.acceptData:=by rw[←acc_eq];exact Lib.laidMet.reads hL (.head _)
 have ht:Lib.Utf8Tabs 0 1 W:=utf8Tabs_of_readsT (ρ:=Tryz.lays196_ren) (U8Types.of196 Tryz.lays196) ⟨by kernel_rfl,by kernel_rfl,by kernel_rfl,by kernel_rfl,by kernel_rfl,by kernel_rfl,by kernel_rfl⟩ h1 h2
 obtain⟨m,hm⟩:=cell_of_shapedOpen_int (P:=Tryz.prog) (g:=2) (t:=3) (zero:=#[iL 0]) (k:=.i64) hsh (of_decide_eq_true kr) kr rfl kr kr Tryz.underlying3
 exact⟨⟨ht.1,ht.2⟩,m,hm⟩
set_option maxRecDepth 100000 in
theorem contract (H:Type) (enc:TypeId×Value→H) (W:World) (base:Nat) (args:Array Value) (ds gs:List (DataW H)) (before:List MemPlace)
 (hval0: ∀ (j:Nat) t v,Tryz.f3.params[j]? =some t→args[j]? =some v→Value.okWide Tryz.prog W .any base t v)
 (hW:DataW.Whole enc Tryz.prog Tryz.f3.params.toList Rows.cloudPlaysSpec.vars false W args.toList ds gs before) (hL:laidMetH Tryz.prog Rows.cloudPlaysUptoRow.laid W) (hsh:W.ShapedOpen Tryz.prog) (hk:Rows.uptoSmall H (ds++gs)=true):
 Calls Tryz.prog 3 args W λe W'=>∃v,e=.returned v∧Rows.cloudPlaysSpec.post enc Tryz.prog Tryz.f3 false true false false W args v W':=by
 have hG:=known hL hsh
 have hval: ∀ (j:Nat) t v,Tryz.f3.params[j]? =some t→args[j]? =some v→Value.okWide Tryz.prog W .any base t v:=hval0
 have hW':=hW
 obtain⟨p,q,hA0,hV,rfl,hfz,hnd⟩:=hW
 have hA:DataW.TrodAll enc Tryz.prog W 0 (λ_=>true) true Tryz.f3.params.toList args.toList ds p:=hA0
 rw[Tryz.params3] at hA hval
 obtain⟨v0,vs0,d0,ds0,p0,q0,hargs,rfl,rfl,h0,r0⟩:=trodAll_cons hA
 obtain⟨rfl,rfl,rfl⟩:=trodAll_nil r0
 obtain rfl:args=#[v0]:=by cases args;simp_all
 obtain⟨rfl,rfl⟩:=trodVars_none hV
 have hB:BulkOk (H:=H) Rows.uptoBulk:=bulk_ok
 obtain⟨A0,cap0,e0,rfl,s0,w0,b0⟩:=OpnAt.slice_arg (sz:=7) hB Tryz.underlying22 kr (opa_TB0 hB) (okWide_slice Tryz.underlying22 (hval 0 22 v0 rfl rfl)) h0
 have hb0:dsz ((eL 7 lO) e0)≤1048576:=Nat.le_trans b0 (bulk_one hk (by simp))
 clear hA0 hval0
 simp only[List.append_nil] at hW'
 have l0: ∀x∈p0,x.block<W.heap.size:=λx hx=>by simpa using hW'.lt x (by simp[hx])
 have hcall:Calls Tryz.prog 3 #[sL A0 e0 cap0] W λe w'=>e=.returned (bO true)∧Below W.heap.size W w':=
  Ok.top (args:=[sL A0 e0 cap0]) (nK 10000 (Mem.of W) hG A0 cap0 e0 s0 true (Go.Proofs.YtkhdpnamfndonaaGreatDoor.cloudPlays_true e0))
 refine hcall.mono λe W' ⟨he,bel⟩=>?_
 subst he
 exact⟨_,rfl,_,_,_,[],_,[],hW',trodAll_mk1 (shut_bool Tryz.underlying4 _),(trodAll_cons_mk (Below.trod laid kr (of_decide_eq_true kr) h0 bel l0) trodAll_mk0),rfl,bel.frame _,λh=>by cases h⟩
noncomputable def laidWorld (os:Os):World:=
 let w0:=World.holding Tryz.prog os ⟨#[],#[],[]⟩
 let put (h:Array Obj) (g:Nat) (cs:Array Value):Array Obj:=h.modify g λ
  |.cells _ t frozen=>.cells cs t frozen
  |o=>o
 let h0:=w0.heap
 let h1:=put h0 1 ((List.range 16).flatMap λi=>[Value.int .u8 (Lib.accLo i),Value.int .u8 (Lib.accHi i)]).toArray
 let h2:=put h1 0 (Lib.firstTab.map λz=>Value.int .u8 z).toArray
 {w0 with heap:=h2}
theorem laid_met (os:Os):laidMet Tryz.prog Rows.cloudPlaysUptoRow.laid ((laidWorld os).forCall (λ_ _=>0) ⟨#[],#[Sn],[]⟩).memory:=
 laidMet_of_run' 10 kr kr
theorem reads (os:Os) {H:Type} (enc:TypeId×Value→H): ∃places,DataW.whole enc Tryz.prog ((laidWorld os).forCall (λ_ _=>0) ⟨#[],#[Sn],[]⟩).memory Tryz.f3.params.toList Rows.cloudPlaysSpec.vars false (#[Sn]:Array Value).toList 8=some ([.nil],[],places):=
 ⟨[],by kernel_rfl⟩
set_option maxRecDepth 100000 in
theorem lifted (os:Os) (started:os.Started) (H:Type) (enc:TypeId×Value→H) (F:Stop.Interp):
 ReturnsInHanded {} Tryz.checked os 3 .any ((Rows.OpenSpec.upto Rows.cloudPlaysSpec).preRow enc Tryz.prog Tryz.f3 Rows.cloudPlaysUptoRow.domain false Rows.cloudPlaysUptoRow.laid) (((Rows.OpenSpec.upto Rows.cloudPlaysSpec).at F).post enc Tryz.prog Tryz.f3 false true false false):=by
 obtain⟨places,hx⟩:=reads os enc
 refine returnsInHanded_of_row (C:=Tryz.checked) (s:=(Rows.OpenSpec.upto Rows.cloudPlaysSpec)) own started kr Tryz.func3
  (witness_row_at (enc:=enc) (C:=Tryz.checked) false (laidWorld os) #[Sn] rfl kr kr kr
   (OpenSpec.preRow_of_cond 8 hx kr (λk hk=>by cases hk;kernel_rfl) kr (laid_met os))) ?_
 intro W base args ds gs before hval hW _ hcond hsz hL hsh _
 exact contract H enc W base args ds gs before hval hW hL hsh (hcond _ rfl)
theorem said:Rows.CloudPlaysUptoSaid:=
 OpenClaim.holds_of_cond 3 Tryz.f3 rfl rfl rfl rfl rfl rfl rfl ⟨rfl,rfl,rfl,rfl,rfl⟩ rfl rfl rfl rfl rfl kr Tryz.func3 kr
  (of_decide_eq_true kr) (by unfold Func.isWrapper;first|(rw[if_pos (by decide+kernel)];kernel_rfl)|(rw[if_neg (by decide+kernel)];exact⟨rfl,rfl⟩))
  (λos started H enc _ F=>by rw[OpenClaim.pre_eq_preRow];exact lifted os started H enc F)
theorem plain (f:FuncId) (fn:Func) (hf:Tryz.pinned.checked.prog.funcNamed "hoarding/hoardinglaw11.CloudPlays"=some f) (hfn:Tryz.pinned.checked.prog.funcs[f]? =some fn):
 false=Tryz.pinned.checked.prog.looks []∧∀ (j:Nat) t,fn.params[j]? =some t→Tryz.pinned.checked.prog.wantsStandIn t=false:=by
 obtain rfl:f=3:=Option.some.inj ((show Tryz.prog.funcNamed "hoarding/hoardinglaw11.CloudPlays"=some 3 by kernel_rfl).symm.trans hf) |>.symm
 obtain rfl:fn=Tryz.f3:=(Option.some.inj (Tryz.func3.symm.trans hfn)).symm
 refine⟨by kernel_rfl,λj t ht=>?_⟩
 rw[Tryz.params3] at ht
 have hm:t∈ [22]:=by simpa using Array.mem_of_getElem? ht
 have hall: ([22].all λu=> !Tryz.prog.wantsStandIn u)=true:=by kernel_rfl
 exact(show Tryz.prog.wantsStandIn t=false by simpa using List.all_eq_true.1 hall t hm)
theorem proved:Rows.CloudPlaysUptoCardSaid:=
 Claim7.holds_tied_plain_at .later [] _ _ _ _ said (λ_ h=>by cases h) kr (λ_ h=>by cases h) cloudPlaysUpto_row_tie rfl ⟨rfl,rfl⟩ kr rfl plain kr
#print axioms proved
end Go.Proofs.YtkhdpnamfndonaaGreatDoor.cloudPlaysUpto
