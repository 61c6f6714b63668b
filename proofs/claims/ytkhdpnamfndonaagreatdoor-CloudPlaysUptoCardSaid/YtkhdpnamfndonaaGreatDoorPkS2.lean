/-
  Texts of this claim, packed (what nothing names is left out): VkF, Ty, Q1, Q2a, WalkIt, Vu, Q2b, Shelf, Lay, Hd, Sort1, Q2d, Q2e, Q3a, WalkIt2, Q4b, LayS, Sort2. Own work, partly printed by own programs. No condition.
-/
import Derived.Test.YtkhdpnamfndonaaGreatDoorPkS1
import Derived.Test.YtkhdpnamfndonaaGreatDoorRows
import Derived.Shelf.Abstract
import Derived.Lib.MapLaws
import Derived.Lib.ValidLaws
import Derived.Shelf.Small.Strs
import Derived.Test.YtkhdpnamfndonaaGreatDoorProg
import Derived.Shelf.Lays
import Derived.Shelf.Unicode.ValidAny
import Derived.Lib.Bytealg
import Derived.Shelf.SlLaysF
import Derived.Shelf.SlSortCmp.NoneTotal
set_option linter.unusedVariables false
set_option linter.unusedSimpArgs false
set_option maxHeartbeats 2000000
section
namespace Go.Vc
open Go Go.RowKit
variable {dd:List Deferred}
def takeAt:Nat→List Ent→Option (Ent×List Ent)
 |0,e::H=>some (e,H)
 |i+1,e::H=>(takeAt i H).map λr=>(r.1,e::r.2)
 |_,[]=>none
def pullE (i:Nat) (H:List Ent):List Ent:=match takeAt i H with|some r=>r.1::r.2|none=>H
def pulls:List Nat→List Ent→List Ent
 |[],H=>H
 |i::is,H=>pulls is (pullE i H)
theorem qd: ∀ (i:Nat) (H:List Ent) (r:Ent×List Ent),takeAt i H=some r→H.Perm (r.1::r.2)
 |0,[],r,h=>by simp[takeAt] at h
 |0,e::H,r,h=>by simp only[takeAt,Option.some.injEq] at h;subst h;exact List.Perm.refl _
 |i+1,[],r,h=>by simp[takeAt] at h
 |i+1,e::H,r,h=>by
  simp only[takeAt] at h
  obtain⟨s,hs,rfl⟩:=Option.map_eq_some_iff.1 h
  exact((qd i H s hs).cons e).trans (List.Perm.swap _ _ _)
theorem qY: ∀ (is:List Nat) (H:List Ent),H.Perm (pulls is H)
 |[],H=>List.Perm.refl _
 |i::is,H=>by
  unfold pulls
  refine List.Perm.trans ?_ (qY is _)
  unfold pullE
  split
  ·rename_i r hr;exact qd i H r hr
  ·exact List.Perm.refl _
theorem Hp.pl {w0 w:World} {M:Mem} {H:List Ent} (h:Hp w0 M H w) (is:List Nat):Hp w0 M (pulls is H) w:=h.perm (qY is H)
theorem fzu {M M':Mem} {base:Addr} {cs:Lv} (hM:M.le M') (h: ∀j u,cs[j]? =some u→M.cell? (base.add j)=some u): ∀j u,cs[j]? =some u→M'.cell? (base.add j)=some u:=λj u e=>hM.cell (h j u e)
def runF (P:Program) (ops:Array Oper) (n:Nat) (l:List Oper) (L:Fr) (w:World):Fr:=match runL P ops n l L w with|some r=>r.1|none=>[]
section
variable {P:Program} {ops:Array Oper} {n:Nat} {Q:Exit→Act→World→Prop} {L:Fr} {a:Act} {w0 w:World} {M:Mem} {H:List Ent}
theorem V_run {l:List Oper} (hf:Frm n L a dd) (m:Nat) (h: (runL P ops n (l.take m) L w).map (·.2)=some w) (hk: ∀a',Frm n (runF P ops n (l.take m) L w) a' dd→wpList P ops Q (l.drop m) a' w):wpList P ops Q l a w:=by
 obtain⟨r,h1,h2⟩:=Option.map_eq_some_iff.1 h
 have e:runF P ops n (l.take m) L w=r.1:=by unfold runF;rw[h1]
 rw[e] at hk
 have:=lr (Q:=Q) (l.drop m) (l.take m) L w a hf r.1 w (by rw[h1,←h2]) hk
 rwa [List.take_append_drop] at this
theorem Y {l:List Oper} (hf:Frm n L a dd) (m:Nat) (hk: ∀a',Frm n (runF P ops n (l.take m) L w) a' dd→wpList P ops Q (l.drop m) a' w) (h: (runL P ops n (l.take m) L w).map (·.2)=some w:=by kernel_rfl):wpList P ops Q l a w:=V_run hf m h hk
theorem Ye {K : Act → World → Prop} {l : List Oper} (hf : Frm n L a dd) (m : Nat) (hk : ∀ a', Frm n (runF P ops n (l.take m) L w) a' dd → K a' w) (hl : l.drop m = [] := by rfl) (h : (runL P ops n (l.take m) L w).map (·.2) = some w := by kernel_rfl) : wpList P ops (Exit.then K Q) l a w := Y hf m (fun a' f => eT (hk a' f) hl) h
def okO (ops:Array Oper) (n:Nat) (L:Fr) (o:Oper):Bool:=match bb ops L o with
 |some true=>bq L o&& (match o.dst with|some d=>Nat.blt d n|none=>false)
 |_=>false
def dstO (o:Oper):Nat:=o.dst.getD 0
theorem jx {o:Oper} (h:okO ops n L o=true):bb ops L o=some true∧bq L o=true∧o.dst=some (dstO o)∧Nat.blt (dstO o) n=true:=by
 unfold okO at h
 split at h
 ·rename_i hw
  simp only[Bool.and_eq_true] at h
  refine⟨hw,h.1,?_⟩
  obtain⟨_,h⟩:=h
  unfold dstO
  split at h
  ·rename_i d hd;rw[hd];exact⟨rfl,h⟩
  ·cases h
 ·cases h
def ldO (P:Program) (L:Fr) (o:Oper):Option Value:=match o.op with|.load t x=>bif one1 P t then some (ev L x) else none|_=>none
theorem ldO_spec {o:Oper} {v:Value} (h:ldO P L o=some v): ∃t x,o.op=.load t x∧one1 P t=true∧ev L x=v:=by
 unfold ldO at h
 split at h
 ·rename_i t x he
  cases ht:one1 P t with
  |false=>rw[ht] at h;cases h
  |true=>rw[ht] at h;exact⟨t,x,he,ht,Option.some.inj h⟩
 ·cases h
theorem V_ld {o:Oper} {rest:List Oper} {base:Addr} {cs:Lv} {v:Value} (hf:Frm n L a dd) (hp:Hp w0 M H w) (hc: ∀j u,cs[j]? =some u→M.cell? (base.add j)=some u) (i:Nat) (hv:cs[i]? =some v)
 (hB:okO ops n L o=true) (hx:ldO P L o=some (.pointer (some (base.add i)))) (hk: ∀a',Frm n ((dstO o,v)::L) a' dd→wpList P ops Q rest a' w):wpList P ops Q (o::rest) a w:=by
 obtain⟨h1,h2,h3,h4⟩:=jx hB
 obtain⟨t,x,e1,e2,e3⟩:=ldO_spec hx
 exact ls hf h1 h2 h3 h4 (gz e1 e3 e2 (hp.cell (hc i v hv))) hk
theorem Y15 {o:Oper} {rest:List Oper} {base:Addr} {cs:Lv} {v:Value} (hf:Frm n L a dd) (hp:Hp w0 M H w) (hc: ∀j u,cs[j]? =some u→M.cell? (base.add j)=some u) (i:Nat) (hv:cs[i]? =some v) (hk: ∀a',Frm n ((dstO o,v)::L) a' dd→wpList P ops Q rest a' w) (hB:okO ops n L o=true:=by kernel_rfl) (hx:ldO P L o=some (Pa (base.add i)):=by kernel_rfl):wpList P ops Q (o::rest) a w:=V_ld hf hp hc i hv hB hx hk
theorem V_eq {w':World} {o:Oper} {rest:List Oper} {v:Value} (hf:Frm n L a dd) (hB:okO ops n L o=true) (hx: (execOp (ev L) o).run P w=.ok (.value v) w') (hk: ∀a',Frm n ((dstO o,v)::L) a' dd→wpList P ops Q rest a' w'):wpList P ops Q (o::rest) a w:=by
 obtain⟨h1,h2,h3,h4⟩:=jx hB
 exact ls hf h1 h2 h3 h4 hx hk
theorem Z {w':World} {o:Oper} {rest:List Oper} {v:Value} (hf:Frm n L a dd) (hx: (execOp (ev L) o).run P w=.ok (.value v) w') (hk: ∀a',Frm n ((dstO o,v)::L) a' dd→wpList P ops Q rest a' w') (hB:okO ops n L o=true:=by kernel_rfl):wpList P ops Q (o::rest) a w:=V_eq hf hB hx hk
theorem V_okv {o:Oper} {rest:List Oper} {f:FuncId} {args:Lv} {v:Value} (hf:Frm n L a dd) (hp:Hp w0 M H w) (hc:Ok P M f args λ_ u=>u=v) (hB:okO ops n L o=true) (hx: ∀w,(execOp (ev L) o).run P w=.ok (.enter f args.toArray) w)
 (hk: ∀w',Hp w0 M H w'→∀a',Frm n ((dstO o,v)::L) a' dd→wpList P ops Q rest a' w'):wpList P ops Q (o::rest) a w:=by
 obtain⟨h1,h2,h3,h4⟩:=jx hB
 exact W_okv hf hp h1 h2 h3 h4 hx hc hk
theorem Y18 {o:Oper} {rest:List Oper} {f:FuncId} {args:Lv} {v:Value} (hf:Frm n L a dd) (hp:Hp w0 M H w) (hc:Ok P M f args λ_ u=>u=v) (hk: ∀w',Hp w0 M H w'→∀a',Frm n ((dstO o,v)::L) a' dd→wpList P ops Q rest a' w') (hB:okO ops n L o=true:=by kernel_rfl) (hx: ∀w,(execOp (ev L) o).run P w=.ok (.enter f args.toArray) w:=by intro _;kernel_rfl):wpList P ops Q (o::rest) a w:=V_okv hf hp hc hB hx hk
theorem V_ok {o:Oper} {rest:List Oper} {f:FuncId} {args:Lv} {Post:Mem→Value→Prop} (hf:Frm n L a dd) (hp:Hp w0 M H w) (hc:Ok P M f args Post) (hB:okO ops n L o=true) (hx: ∀w,(execOp (ev L) o).run P w=.ok (.enter f args.toArray) w)
 (hk: ∀v M' w',M.le M'→Hp w0 M' H w'→Post M' v→∀a',Frm n ((dstO o,v)::L) a' dd→wpList P ops Q rest a' w'):wpList P ops Q (o::rest) a w:=by
 obtain⟨h1,h2,h3,h4⟩:=jx hB
 exact W_ok hf hp h1 h2 h3 h4 hx hc hk
theorem Y16 {o:Oper} {rest:List Oper} {f:FuncId} {args:Lv} {Post:Mem→Value→Prop} (hf:Frm n L a dd) (hp:Hp w0 M H w) (hc:Ok P M f args Post) (hk: ∀v M' w',M.le M'→Hp w0 M' H w'→Post M' v→∀a',Frm n ((dstO o,v)::L) a' dd→wpList P ops Q rest a' w') (hB:okO ops n L o=true:=by kernel_rfl) (hx: ∀w,(execOp (ev L) o).run P w=.ok (.enter f args.toArray) w:=by intro _;kernel_rfl):wpList P ops Q (o::rest) a w:=V_ok hf hp hc hB hx hk
theorem V_okH {o:Oper} {rest:List Oper} {f:FuncId} {args:Lv} {E:List Ent} {Post:Mem→List Ent→Value→Prop} (hf:Frm n L a dd) (hp:Hp w0 M (E++H) w) (hc:OkH P M E f args Post) (hB:okO ops n L o=true) (hx: ∀w,(execOp (ev L) o).run P w=.ok (.enter f args.toArray) w)
 (hk: ∀v M' E' w',M.le M'→Hp w0 M' (E'++H) w'→Post M' E' v→∀a',Frm n ((dstO o,v)::L) a' dd→wpList P ops Q rest a' w'):wpList P ops Q (o::rest) a w:=by
 obtain⟨h1,h2,h3,h4⟩:=jx hB
 exact W_okH hf hp h1 h2 h3 h4 hx hc hk
theorem Y17 {o:Oper} {rest:List Oper} {f:FuncId} {args:Lv} {E:List Ent} {Post:Mem→List Ent→Value→Prop} (hf:Frm n L a dd) (hp:Hp w0 M (E++H) w) (hc:OkH P M E f args Post) (hk: ∀v M' E' w',M.le M'→Hp w0 M' (E'++H) w'→Post M' E' v→∀a',Frm n ((dstO o,v)::L) a' dd→wpList P ops Q rest a' w') (hB:okO ops n L o=true:=by kernel_rfl) (hx: ∀w,(execOp (ev L) o).run P w=.ok (.enter f args.toArray) w:=by intro _;kernel_rfl):wpList P ops Q (o::rest) a w:=V_okH hf hp hc hB hx hk
theorem V_alloc {o:Oper} {rest:List Oper} (hf:Frm n L a dd) (hp:Hp w0 M H w) (ob:Obj) (hB:okO ops n L o=true) (h: ∀w,(execOp (ev L) o).run P w=.ok (.value (.pointer (some ⟨w.heap.size,0,none⟩))) (w.alloc ob))
 (hk: ∀b w',Hp w0 M (.obj b ob::H) w'→∀a',Frm n ((dstO o,.pointer (some ⟨b,0,none⟩))::L) a' dd→wpList P ops Q rest a' w'):wpList P ops Q (o::rest) a w:=
 V_eq hf hB (h w) (hk w.heap.size (w.alloc ob) (hp.alloc ob))
theorem Y12 {o:Oper} {rest:List Oper} (hf:Frm n L a dd) (hp:Hp w0 M H w) (ob:Obj) (hk: ∀b w',Hp w0 M (.obj b ob::H) w'→∀a',Frm n ((dstO o,pP b)::L) a' dd→wpList P ops Q rest a' w') (hB:okO ops n L o=true:=by kernel_rfl) (h: ∀w,(execOp (ev L) o).run P w=.ok (.value (Pa ⟨w.heap.size,0,none⟩)) (w.alloc ob):=by intro _;kernel_rfl):wpList P ops Q (o::rest) a w:=V_alloc hf hp ob hB h hk
theorem bg {o:Oper} {rest:List Oper} (hf:Frm n L a dd) (hp:Hp w0 M H w) (ob:Obj) (k c:Nat) (hB:okO ops n L o=true) (h: ∀w,(execOp (ev L) o).run P w=.ok (.value (.slice (some ⟨w.heap.size,0,none⟩) k c)) (w.alloc ob))
 (hk: ∀b w',Hp w0 M (.obj b ob::H) w'→∀a',Frm n ((dstO o,.slice (some ⟨b,0,none⟩) k c)::L) a' dd→wpList P ops Q rest a' w'):wpList P ops Q (o::rest) a w:=
 V_eq hf hB (h w) (hk w.heap.size (w.alloc ob) (hp.alloc ob))
theorem V_box {o:Oper} {rest:List Oper} {cs:Array Value} {T:TypeId} (hf:Frm n L a dd) (hp:Hp w0 M H w) (hB:okO ops n L o=true) (h: ∀w,(execOp (ev L) o).run P w=.ok (.value (.pointer (some ⟨w.heap.size,0,none⟩))) (w.alloc (.cells cs T (0,0))))
 (hk: ∀b M' w',M.le M'→(∀j v,cs[j]? =some v→M'.cell? ⟨b,j,none⟩=some v)→Hp w0 M' H w'→∀a',Frm n ((dstO o,.pointer (some ⟨b,0,none⟩))::L) a' dd→wpList P ops Q rest a' w'):wpList P ops Q (o::rest) a w:=
 V_alloc hf hp _ hB h λb w' hp'=>hk b _ w' hp'.freeze.1 (λj v hv=>by rw[ko,hv]) hp'.freeze.2
theorem Y13 {o:Oper} {rest:List Oper} {cs:Array Value} {T:TypeId} (hf:Frm n L a dd) (hp:Hp w0 M H w) (hk: ∀b M' w',M.le M'→(∀j v,cs[j]? =some v→M'.cell? ⟨b,j,none⟩=some v)→Hp w0 M' H w'→∀a',Frm n ((dstO o,pP b)::L) a' dd→wpList P ops Q rest a' w') (hB:okO ops n L o=true:=by kernel_rfl) (h: ∀w,(execOp (ev L) o).run P w=.ok (.value (Pa ⟨w.heap.size,0,none⟩)) (w.alloc (.cells cs T (0,0))):=by intro _;kernel_rfl):wpList P ops Q (o::rest) a w:=V_box hf hp hB h hk
end
def runQ (P:Program) (ops:Array Oper) (n:Nat):List Oper→Fr→World→Option (Fr×List World)
 |[],L,_=>some (L,[])
 |o::os,L,w=>match o.dst with
  |none=>none
  |some d=>bif Nat.blt d n then
   (match bb ops L o with
   |none=>none
   |some false=>(runQ P ops n os ((d,undef)::L) w).map λr=>(r.1,w::r.2)
   |some true=>bif bq L o then
    (match (execOp (ev L) o).run P w with
    |.ok (.value v) w'=>(runQ P ops n os ((d,v)::L) w').map λr=>(r.1,w'::r.2)
    |_=>none) else none) else none
def qF (P:Program) (ops:Array Oper) (n:Nat) (l:List Oper) (L:Fr) (w:World):Fr:=match runQ P ops n l L w with|some r=>r.1|none=>[]
theorem qZ {P:Program} {ops:Array Oper} {n:Nat}: ∀ (l:List Oper) (L:Fr) (w:World) (r:Fr×List World),runQ P ops n l L w=some r→∃pre,r.1=pre++L∧pre.length=l.length
 |[],L,w,r,h=>by simp only[runQ,Option.some.injEq] at h;subst h;exact⟨[],rfl,rfl⟩
 |o::os,L,w,r,h=>by
  unfold runQ at h
  split at h
  ·cases h
  rename_i d hd
  cases hb:Nat.blt d n with
  |false=>rw[hb] at h;cases h
  |true=>
   rw[hb,cond_true] at h
   have fin: ∀ (v:Value) (w1:World) (s:Fr×List World),runQ P ops n os ((d,v)::L) w1=some s→∃pre,s.1=pre++L∧pre.length=(o::os).length:=λv w1 s hs=>by
    obtain⟨pre,h1,h2⟩:=qZ os _ _ s hs
    exact⟨pre++[(d,v)],by rw[h1,List.append_assoc];rfl,by simp[h2]⟩
   split at h
   ·cases h
   ·obtain⟨s,hs,rfl⟩:=Option.map_eq_some_iff.1 h
    exact fin _ _ s hs
   ·cases hr:bq L o with
    |false=>rw[hr] at h;cases h
    |true=>
     rw[hr,cond_true] at h
     split at h
     ·obtain⟨s,hs,rfl⟩:=Option.map_eq_some_iff.1 h
      exact fin _ _ s hs
     ·cases h
theorem sT {P:Program} {ops:Array Oper} {n:Nat} {o:Oper} {os:List Oper} {L L':Fr} {wd:World} (h: ∀w,runQ P ops n (o::os) L w=some (L',List.replicate (o::os).length w)):
 ∃d,o.dst=some d∧d<n∧((bb ops L o=some false∧∀w,runQ P ops n os ((d,undef)::L) w=some (L',List.replicate os.length w))∨
  (bb ops L o=some true∧bq L o=true∧∃v,(∀w,(execOp (ev L) o).run P w=.ok (.value v) w)∧∀w,runQ P ops n os ((d,v)::L) w=some (L',List.replicate os.length w))):=by
 have h0:=h wd
 cases hd:o.dst with
 |none=>unfold runQ at h0;simp only[hd] at h0;cases h0
 |some d=>
  cases hb:Nat.blt d n with
  |false=>unfold runQ at h0;simp only[hd,hb,cond_false] at h0;cases h0
  |true=>
   refine⟨d,rfl,by simpa [Nat.blt_eq] using hb,?_⟩
   cases hw:bb ops L o with
   |none=>unfold runQ at h0;simp only[hd,hb,cond_true,hw] at h0;cases h0
   |some b=>
    cases b with
    |false=>
     refine .inl ⟨rfl,λw=>?_⟩
     have h1:=h w
     unfold runQ at h1
     simp only[hd,hb,cond_true,hw] at h1
     obtain⟨s,hs,e⟩:=Option.map_eq_some_iff.1 h1
     obtain⟨s1,s2⟩:=s
     simp only[List.length_cons,List.replicate_succ,Prod.mk.injEq,List.cons.injEq] at e
     rw[hs,e.1,e.2.2]
    |true=>
     cases hr:bq L o with
     |false=>unfold runQ at h0;simp only[hd,hb,cond_true,hw,hr,cond_false] at h0;cases h0
     |true=>
      have key: ∀w,∃v,(execOp (ev L) o).run P w=.ok (.value v) w∧runQ P ops n os ((d,v)::L) w=some (L',List.replicate os.length w):=λw=>by
       have h1:=h w
       unfold runQ at h1
       simp only[hd,hb,cond_true,hw,hr] at h1
       split at h1
       ·rename_i v w' hx
        obtain⟨s,hs,e⟩:=Option.map_eq_some_iff.1 h1
        obtain⟨s1,s2⟩:=s
        simp only[List.length_cons,List.replicate_succ,Prod.mk.injEq,List.cons.injEq] at e
        obtain⟨e1,e2,e3⟩:=e
        subst e2
        exact⟨v,hx,by rw[hs,e1,e3]⟩
       ·cases h1
      obtain⟨v,hv1,hv2⟩:=key wd
      have same: ∀w u,runQ P ops n os ((d,u)::L) w=some (L',List.replicate os.length w)→u=v:=λw u hu=>by
       obtain⟨p1,q1,r1⟩:=qZ os _ _ _ hv2
       obtain⟨p2,q2,r2⟩:=qZ os _ _ _ hu
       have e:p1++((d,v)::L)=p2++((d,u)::L):=q1.symm.trans q2
       have:=(List.append_inj e (r1.trans r2.symm)).2
       simp only[List.cons.injEq,Prod.mk.injEq] at this
       exact this.1.2.symm
      refine .inr ⟨rfl,rfl,v,λw=>?_,λw=>?_⟩
      ·obtain⟨u,h1,h2⟩:=key w
       rw[h1,same w u h2]
      ·obtain⟨u,h1,h2⟩:=key w
       rw[←same w u h2];exact h2
section
variable {P:Program} {ops:Array Oper} {n:Nat} {C:World→Prop} {K:Act→Prop} {L:Fr} {a:Act} {w0:World} {M:Mem} {H:List Ent}
theorem Q_runs (wd:World): ∀ (l rest:List Oper) (L L':Fr) (a:Act),Frm n L a dd→(∀w,runQ P ops n l L w=some (L',List.replicate l.length w))→(∀a',Frm n L' a' dd→wpQuiet P ops C K rest a')→wpQuiet P ops C K (l++rest) a
 |[],rest,L,L',a,hf,h,hk=>by
  have:=h wd
  simp only[runQ,Option.some.injEq,Prod.mk.injEq] at this
  exact hk a (this.1▸hf)
 |o::os,rest,L,L',a,hf,h,hk=>by
  obtain⟨d,h1,h2,h3⟩:=sT (wd:=wd) h
  have hdn:Nat.blt d n=true:=by simpa [Nat.blt_eq] using h2
  rcases h3 with⟨hw,h4⟩|⟨hw,hr,v,hx,h4⟩
  ·exact Q_not hf hw h1 hdn λa' fa=>Q_runs wd os rest _ L' a' fa h4 hk
  ·exact mp hf hw hr h1 hdn (λw _=>hx w) λa' fa=>Q_runs wd os rest _ L' a' fa h4 hk
theorem Q_run {l:List Oper} (wd:World) (hf:Frm n L a dd) (m:Nat) (h: ∀w,runQ P ops n (l.take m) L w=some (qF P ops n (l.take m) L wd,List.replicate (l.take m).length w)) (hk: ∀a',Frm n (qF P ops n (l.take m) L wd) a' dd→wpQuiet P ops C K (l.drop m) a'):wpQuiet P ops C K l a:=by
 have:=Q_runs (C:=C) (K:=K) wd (l.take m) (l.drop m) L _ a hf h hk
 rwa [List.take_append_drop] at this
theorem Y5 {l:List Oper} (wd:World) (hf:Frm n L a dd) (m:Nat) (hk: ∀a',Frm n (qF P ops n (l.take m) L wd) a' dd→wpQuiet P ops C K (l.drop m) a') (h: ∀w,runQ P ops n (l.take m) L w=some (qF P ops n (l.take m) L wd,List.replicate (l.take m).length w):=by intro _;kernel_rfl):wpQuiet P ops C K l a:=Q_run wd hf m h hk
theorem Q_ld {o:Oper} {rest:List Oper} {base:Addr} {cs:Lv} {v:Value} (hf:Frm n L a dd) (hc: ∀j u,cs[j]? =some u→M.cell? (base.add j)=some u) (i:Nat) (hv:cs[i]? =some v)
 (hB:okO ops n L o=true) (hx:ldO P L o=some (.pointer (some (base.add i)))) (hk: ∀a',Frm n ((dstO o,v)::L) a' dd→wpQuiet P ops (λw=>Hp w0 M H w) K rest a'):wpQuiet P ops (λw=>Hp w0 M H w) K (o::rest) a:=by
 obtain⟨h1,h2,h3,h4⟩:=jx hB
 obtain⟨t,x,e1,e2,e3⟩:=ldO_spec hx
 exact mp hf h1 h2 h3 h4 (λw hp=>gz e1 e3 e2 (hp.cell (hc i v hv))) hk
theorem Y4 {o:Oper} {rest:List Oper} {base:Addr} {cs:Lv} {v:Value} (hf:Frm n L a dd) (hc: ∀j u,cs[j]? =some u→M.cell? (base.add j)=some u) (i:Nat) (hv:cs[i]? =some v) (hk: ∀a',Frm n ((dstO o,v)::L) a' dd→wpQuiet P ops (λw=>Hp w0 M H w) K rest a') (hB:okO ops n L o=true:=by kernel_rfl) (hx:ldO P L o=some (Pa (base.add i)):=by kernel_rfl):wpQuiet P ops (λw=>Hp w0 M H w) K (o::rest) a:=Q_ld hf hc i hv hB hx hk
theorem QV_eq {o:Oper} {rest:List Oper} {v:Value} (hf:Frm n L a dd) (hB:okO ops n L o=true) (hx: ∀w,C w→(execOp (ev L) o).run P w=.ok (.value v) w) (hk: ∀a',Frm n ((dstO o,v)::L) a' dd→wpQuiet P ops C K rest a'):wpQuiet P ops C K (o::rest) a:=by
 obtain⟨h1,h2,h3,h4⟩:=jx hB
 exact mp hf h1 h2 h3 h4 hx hk
theorem Y2 {o:Oper} {rest:List Oper} {v:Value} (hf:Frm n L a dd) (hx: ∀w,C w→(execOp (ev L) o).run P w=.ok (.value v) w) (hk: ∀a',Frm n ((dstO o,v)::L) a' dd→wpQuiet P ops C K rest a') (hB:okO ops n L o=true:=by kernel_rfl):wpQuiet P ops C K (o::rest) a:=QV_eq hf hB hx hk
theorem QV_okv {o:Oper} {rest:List Oper} {f:FuncId} {args:Lv} {v:Value} (hf:Frm n L a dd) (hc:Ok P M f args λ_ u=>u=v) (hB:okO ops n L o=true) (hx: ∀w,(execOp (ev L) o).run P w=.ok (.enter f args.toArray) w)
 (hk: ∀a',Frm n ((dstO o,v)::L) a' dd→wpQuiet P ops (λw=>Hp w0 M H w) K rest a'):wpQuiet P ops (λw=>Hp w0 M H w) K (o::rest) a:=by
 obtain⟨h1,h2,h3,h4⟩:=jx hB
 exact Q_okv hf h1 h2 h3 h4 hx hc hk
theorem Y3 {o:Oper} {rest:List Oper} {f:FuncId} {args:Lv} {v:Value} (hf:Frm n L a dd) (hc:Ok P M f args λ_ u=>u=v) (hk: ∀a',Frm n ((dstO o,v)::L) a' dd→wpQuiet P ops (λw=>Hp w0 M H w) K rest a') (hB:okO ops n L o=true:=by kernel_rfl) (hx: ∀w,(execOp (ev L) o).run P w=.ok (.enter f args.toArray) w:=by intro _;kernel_rfl):wpQuiet P ops (λw=>Hp w0 M H w) K (o::rest) a:=QV_okv hf hc hB hx hk
end
section
variable {P:Program} {ops:Array Oper} {n:Nat} {Q:Exit→Act→World→Prop} {L:Fr} {a:Act} {w0:World} {M:Mem} {Hr:List Ent} {i:Mem×List Ent}
theorem M_runs (wd:World): ∀ (l:List Oper) (rest:List (Bool×Oper)) (L L':Fr) (a:Act),Frm n L a→(∀w,runQ P ops n l L w=some (L',List.replicate l.length w))→(∀a',Frm n L' a'→wpMix P ops Q (Cla w0 M Hr) rest a' i)→wpMix P ops Q (Cla w0 M Hr) (l.map (λo=>(true,o))++rest) a i
 |[],rest,L,L',a,hf,h,hk=>by
  have:=h wd
  simp only[runQ,Option.some.injEq,Prod.mk.injEq] at this
  exact hk a (this.1▸hf)
 |o::os,rest,L,L',a,hf,h,hk=>by
  obtain⟨d,h1,h2,h3⟩:=sT (wd:=wd) h
  have hdn:Nat.blt d n=true:=by simpa [Nat.blt_eq] using h2
  rcases h3 with⟨hw,h4⟩|⟨hw,hr,v,hx,h4⟩
  ·exact M_not hf hw h1 hdn λa' fa=>M_runs wd os rest _ L' a' fa h4 hk
  ·exact iO hf hw hr h1 hdn (λw _=>hx w) λa' fa=>M_runs wd os rest _ L' a' fa h4 hk
def qops (l:List (Bool×Oper)):List Oper:=l.map (·.2)
def allQ (l:List (Bool×Oper)):Bool:=l.all (·.1)
theorem qops_map {l:List (Bool×Oper)} (h:allQ l=true): (qops l).map (λo=>(true,o))=l:=by
 induction l with
 |nil=>rfl
 |cons p r ih=>
  obtain⟨b,o⟩:=p
  simp only[allQ,List.all_cons,Bool.and_eq_true] at h
  obtain⟨rfl,h2⟩:=h
  show(true,o)::(qops r).map _=_
  rw[ih h2]
theorem M_run {l:List (Bool×Oper)} (wd:World) (hf:Frm n L a) (m:Nat) (hq:allQ (l.take m)=true) (h: ∀w,runQ P ops n (qops (l.take m)) L w=some (qF P ops n (qops (l.take m)) L wd,List.replicate (qops (l.take m)).length w)) (hk: ∀a',Frm n (qF P ops n (qops (l.take m)) L wd) a'→wpMix P ops Q (Cla w0 M Hr) (l.drop m) a' i):wpMix P ops Q (Cla w0 M Hr) l a i:=by
 have:=M_runs (Q:=Q) (w0:=w0) (M:=M) (Hr:=Hr) (i:=i) wd (qops (l.take m)) (l.drop m) L _ a hf h hk
 rwa [qops_map hq,List.take_append_drop] at this
theorem Y0 {l:List (Bool×Oper)} (wd:World) (hf:Frm n L a) (m:Nat) (hk: ∀a',Frm n (qF P ops n (qops (l.take m)) L wd) a'→wpMix P ops Q (Cla w0 M Hr) (l.drop m) a' i) (hq:allQ (l.take m)=true:=by kernel_rfl) (h: ∀w,runQ P ops n (qops (l.take m)) L w=some (qF P ops n (qops (l.take m)) L wd,List.replicate (qops (l.take m)).length w):=by intro _;kernel_rfl):wpMix P ops Q (Cla w0 M Hr) l a i:=M_run wd hf m hq h hk
end
section
variable {P:Program} {l:List Oper} {ks:List Nat} {n:Nat} {Q:Exit→Act→World→Prop} {L:Fr} {a:Act} {w0 w:World} {M:Mem} {Hr:List Ent} {i:Mem×List Ent}
theorem aW {p:Plan} {M1:Mem} {H:List Ent} (k:Nat) (hM:M.le M1) (hp:Hp w0 M1 H w) (hH:H.drop k=Hr) (h:wpPlan P l ks Q (Cla w0 M Hr) p a (M1,H.take k)):
 mixQ Q (λa' w'=>∃i',Cla w0 M Hr i' w'∧wpPlan P l ks Q (Cla w0 M Hr) p a' i') .normal a w:=by
 subst hH
 exact⟨(M1,H.take k),⟨hM,by rw[List.take_append_drop];exact hp⟩,h⟩
end
theorem sI {α:Type} {a b:α} (h:some a=some b):a=b:=Option.some.inj h
theorem dI {p:Prop} [Decidable p]:decide p=true↔p:=decide_eq_true_iff
theorem bS {α β:Type} {x:Option α} {f:α→Option β} {r:β} (h:x.bind f=some r): ∃v,x=some v∧f v=some r:=bind_some' h
theorem bE (b:Bool):b=true∨b=false:=Bool.eq_false_or_eq_true b
theorem mR (M:Mem):M.le M:=Mem.le_refl M
theorem nS {α:Type} {p:Prop} [Decidable p] {y:Option α} {r:α} (h:aZ p y=some r):p∧y=some r:=jf h
theorem Frm.st {n:Nat} {L:Fr} {a:Act} {dd:List Deferred} {v v':Value} (h:Frm n L a dd) (k:Nat) (e:v=v') (hl:Go.Vc.look L k=some v:=by kernel_rfl):Frm n ((k,v')::L) a dd:=h.set k hl e
theorem Frm.kp {n:Nat} {L K:Fr} {a:Act} {dd:List Deferred} (h:Frm n L a dd) (hk:Go.Vc.keep (K.map (·.1)) L=some K:=by kernel_rfl):Frm n K a dd:=h.keep hk
theorem cE {α:Type} {b:Bool} {x y r:α} (h: (bif b then x else y)=r): (b=true∧x=r)∨(b=false∧y=r):=by
 cases b
 · exact .inr ⟨rfl,h⟩
 · exact .inl ⟨rfl,h⟩
theorem cB {a b:Bool} (h:a=b):Value.bool a=Value.bool b:=congrArg Value.bool h
theorem iW {k:IntKind} {x:Int} (h:inR k x):Value.int k (k.wrap x)=Value.int k x:=congrArg (Value.int k) (inR_wrap h)
end Go.Vc
end
section
namespace Go.Proofs.YtkhdpnamfndonaaGreatDoor
open Go Go.Vc Go.RowKit
structure TF0 where
 ab:Int
 ak:Bool
 an:Int
 ah:Bs
 ac:List TF0
 ae:List Bs
abbrev lTF0 (x : TF0) (A4 : Option Addr) (c4 : Nat) (A5 : Option Addr) (c5 : Nat) : List Value := [.int .i8 x.ab, .bool x.ak, .int .i64 x.an, S x.ah, .slice A4 x.ac.length c4, .slice A5 x.ae.length c5]
abbrev aTF0 (x : TF0) (A4 : Option Addr) (c4 : Nat) (A5 : Option Addr) (c5 : Nat) : Array Value := #[.int .i8 x.ab, .bool x.ak, .int .i64 x.an, S x.ah, .slice A4 x.ac.length c4, .slice A5 x.ae.length c5]
mutual
def ay:TF0→Dat
 |⟨x0,x1,x2,x3,x4,x5⟩=>.struct [(Dat.int .i8) x0,Dat.bool x1,(Dat.int .i64) x2,Dat.str x3,.list 6 (mC x4),(eL 1 Dat.str) x5]
def mC:List TF0→List Dat
 |[]=>[]
 |x::r=>ay x::mC r
end
theorem qe: ∀l:List TF0,mC l=l.map ay
 |[]=>by simp[mC]
 |x::r=>by simp[mC,qe r]
theorem eR (x:TF0):ay x=.struct [(Dat.int .i8) x.ab,Dat.bool x.ak,(Dat.int .i64) x.an,Dat.str x.ah,(eL 6 ay) x.ac,(eL 1 Dat.str) x.ae]:=by
 cases x
 simp[ay,eL,qe]
theorem ka (x:TF0):Szd 6 (ay x):=by rw[eR];exact(ca ((dX .i8) _) (ca (mw _) (ca ((dX .i64) _) (ca (dY _) (ca ((λ_=>oJ _ _) _) (ca ((λ_=>oJ _ _) _) nn))))))
theorem TF0.opn {M:Mem} {x:TF0} {cs:Lv} (h:Rep M (ay x) cs): ∃ (A4:Oa) (c4:Nat) (A5:Oa) (c5:Nat),cs=[.int .i8 x.ab,.bool x.ak,.int .i64 x.an,S x.ah,.slice A4 x.ac.length c4,.slice A5 x.ae.length c5]∧Sli M 6 ay A4 c4 x.ac∧Sli M 1 Dat.str A5 c5 x.ae:=by
 rw[eR] at h
 obtain⟨oG,dq_0,mY,mZ,nc⟩:=h
 have ne:oG=_:=mZ
 obtain⟨nf,sF,ng,dg,nh⟩:=nc
 have ni:nf=_:=dg
 obtain⟨sG,se,pX,hZ,pY⟩:=nh
 have yq_2:sG=_:=hZ
 obtain⟨cq_3,dq_3,eq_3,sH,gq_3⟩:=pY
 have yq_3:cq_3=_:=sH
 obtain⟨cq_4,dq_4,eq_4,hq_4,gq_4⟩:=gq_3
 obtain⟨Aq_4,kq_4,yq_4,zq_4⟩:=Rep.sli hq_4
 obtain⟨cq_5,dq_5,eq_5,hq_5,gq_5⟩:=gq_4
 obtain⟨Aq_5,kq_5,yq_5,zq_5⟩:=Rep.sli hq_5
 have lq:dq_5=[]:=gq_5
 exact⟨Aq_4,kq_4,Aq_5,kq_5,by simp[mY,ne,ng,ni,pX,yq_2,eq_3,yq_3,eq_4,yq_4,eq_5,yq_5,lq],zq_4,zq_5⟩
theorem TF0.shut {M:Mem} {a0:Int} {a1:Bool} {a2:Int} {a3:Bs} {a4:List TF0} {a5:List Bs} {A4:Oa} {c4:Nat} {A5:Oa} {c5:Nat} (h4:Sli M 6 ay A4 c4 a4) (h5:Sli M 1 Dat.str A5 c5 a5):Rep M (ay ⟨a0,a1,a2,a3,a4,a5⟩) [.int .i8 a0,.bool a1,.int .i64 a2,S a3,.slice A4 a4.length c4,.slice A5 a5.length c5]:=by
 rw[eR];exact⟨_,_,rfl,rfl,⟨_,_,rfl,rfl,⟨_,_,rfl,rfl,⟨_,_,rfl,rfl,⟨_,_,rfl,(Sli.rep h4),⟨_,_,rfl,(Sli.rep h5),rfl⟩⟩⟩⟩⟩⟩
theorem TF0.shutx {M:Mem} {x:TF0} {A4:Oa} {c4:Nat} {A5:Oa} {c5:Nat} (h4:Sli M 6 ay A4 c4 x.ac) (h5:Sli M 1 Dat.str A5 c5 x.ae):Rep M (ay x) [.int .i8 x.ab,.bool x.ak,.int .i64 x.an,S x.ah,.slice A4 x.ac.length c4,.slice A5 x.ae.length c5]:=by
 have h:=TF0.shut (M:=M) (a0:=x.ab) (a1:=x.ak) (a2:=x.an) (a3:=x.ah) (a4:=x.ac) (a5:=x.ae) h4 h5
 rw[eR] at h ⊢
 exact h
structure TE0 where
 aB:Bs
 az:Bool
 fV:TF0
abbrev lTE0 (x : TE0) (A6 : Option Addr) (c6 : Nat) (A7 : Option Addr) (c7 : Nat) : List Value := [S x.aB, .bool x.az, .int .i8 x.fV.ab, .bool x.fV.ak, .int .i64 x.fV.an, S x.fV.ah, .slice A6 x.fV.ac.length c6, .slice A7 x.fV.ae.length c7]
abbrev aTE0 (x : TE0) (A6 : Option Addr) (c6 : Nat) (A7 : Option Addr) (c7 : Nat) : Array Value := #[S x.aB, .bool x.az, .int .i8 x.fV.ab, .bool x.fV.ak, .int .i64 x.fV.an, S x.fV.ah, .slice A6 x.fV.ac.length c6, .slice A7 x.fV.ae.length c7]
def aY:TE0→Dat
 |⟨x0,x1,x2⟩=>.struct [Dat.str x0,Dat.bool x1,ay x2]
theorem jh (x:TE0):aY x=.struct [Dat.str x.aB,Dat.bool x.az,ay x.fV]:=by
 cases x
 simp[aY,eL]
theorem szd_TE0 (x:TE0):Szd 8 (aY x):=by rw[jh];exact(ca (dY _) (ca (mw _) (ca (ka _) nn)))
theorem TE0.opn {M:Mem} {x:TE0} {cs:Lv} (h:Rep M (aY x) cs): ∃ (A6:Oa) (c6:Nat) (A7:Oa) (c7:Nat),cs=[S x.aB,.bool x.az,.int .i8 x.fV.ab,.bool x.fV.ak,.int .i64 x.fV.an,S x.fV.ah,.slice A6 x.fV.ac.length c6,.slice A7 x.fV.ae.length c7]∧Sli M 6 ay A6 c6 x.fV.ac∧Sli M 1 Dat.str A7 c7 x.fV.ae:=by
 rw[jh] at h
 obtain⟨oG,dq_0,mY,mZ,nc⟩:=h
 have ne:oG=_:=mZ
 obtain⟨nf,sF,ng,dg,nh⟩:=nc
 have ni:nf=_:=dg
 obtain⟨sG,se,pX,hZ,pY⟩:=nh
 rw[eR] at hZ
 obtain⟨cq_2_0,dq_2_0,eq_2_0,hq_2_0,gq_2_0⟩:=hZ
 have yq_2_0:cq_2_0=_:=hq_2_0
 obtain⟨cq_2_1,dq_2_1,eq_2_1,hq_2_1,gq_2_1⟩:=gq_2_0
 have yq_2_1:cq_2_1=_:=hq_2_1
 obtain⟨cq_2_2,dq_2_2,eq_2_2,hq_2_2,gq_2_2⟩:=gq_2_1
 have yq_2_2:cq_2_2=_:=hq_2_2
 obtain⟨cq_2_3,dq_2_3,eq_2_3,hq_2_3,gq_2_3⟩:=gq_2_2
 have yq_2_3:cq_2_3=_:=hq_2_3
 obtain⟨cq_2_4,dq_2_4,eq_2_4,hq_2_4,gq_2_4⟩:=gq_2_3
 obtain⟨Aq_2_4,kq_2_4,yq_2_4,zq_2_4⟩:=Rep.sli hq_2_4
 obtain⟨cq_2_5,dq_2_5,eq_2_5,hq_2_5,gq_2_5⟩:=gq_2_4
 obtain⟨Aq_2_5,kq_2_5,yq_2_5,zq_2_5⟩:=Rep.sli hq_2_5
 have lq_2:dq_2_5=[]:=gq_2_5
 have lq:se=[]:=pY
 exact⟨Aq_2_4,kq_2_4,Aq_2_5,kq_2_5,by simp[mY,ne,ng,ni,pX,eq_2_0,yq_2_0,eq_2_1,yq_2_1,eq_2_2,yq_2_2,eq_2_3,yq_2_3,eq_2_4,yq_2_4,eq_2_5,yq_2_5,lq_2,lq],zq_2_4,zq_2_5⟩
theorem TE0.shut {M:Mem} {a0:Bs} {a1:Bool} {a2:Int} {a3:Bool} {a4:Int} {a5:Bs} {a6:List TF0} {a7:List Bs} {A6:Oa} {c6:Nat} {A7:Oa} {c7:Nat} (h6:Sli M 6 ay A6 c6 a6) (h7:Sli M 1 Dat.str A7 c7 a7):Rep M (aY ⟨a0,a1,⟨a2,a3,a4,a5,a6,a7⟩⟩) [S a0,.bool a1,.int .i8 a2,.bool a3,.int .i64 a4,S a5,.slice A6 a6.length c6,.slice A7 a7.length c7]:=by
 rw[jh];exact⟨_,_,rfl,rfl,⟨_,_,rfl,rfl,⟨_,_,rfl,(by rw[eR];exact⟨_,_,rfl,rfl,⟨_,_,rfl,rfl,⟨_,_,rfl,rfl,⟨_,_,rfl,rfl,⟨_,_,rfl,(Sli.rep h6),⟨_,_,rfl,(Sli.rep h7),rfl⟩⟩⟩⟩⟩⟩),rfl⟩⟩⟩
theorem TE0.shutx {M:Mem} {x:TE0} {A6:Oa} {c6:Nat} {A7:Oa} {c7:Nat} (h6:Sli M 6 ay A6 c6 x.fV.ac) (h7:Sli M 1 Dat.str A7 c7 x.fV.ae):Rep M (aY x) [S x.aB,.bool x.az,.int .i8 x.fV.ab,.bool x.fV.ak,.int .i64 x.fV.an,S x.fV.ah,.slice A6 x.fV.ac.length c6,.slice A7 x.fV.ae.length c7]:=by
 obtain⟨u0,u1,⟨u2,u3,u4,u5,u6,u7⟩⟩:=x
 exact TE0.shut h6 h7
structure TG0 where
 af:Bs
 am:Bs
 ai:List TE0
abbrev lTG0 (x : TG0) (A2 : Option Addr) (c2 : Nat) : List Value := [S x.af, S x.am, .slice A2 x.ai.length c2]
abbrev aTG0 (x : TG0) (A2 : Option Addr) (c2 : Nat) : Array Value := #[S x.af, S x.am, .slice A2 x.ai.length c2]
def aK:TG0→Dat
 |⟨x0,x1,x2⟩=>.struct [Dat.str x0,Dat.str x1,(eL 8 aY) x2]
theorem lL (x:TG0):aK x=.struct [Dat.str x.af,Dat.str x.am,(eL 8 aY) x.ai]:=by
 cases x
 simp[aK,eL]
theorem jn (x:TG0):Szd 3 (aK x):=by rw[lL];exact(ca (dY _) (ca (dY _) (ca ((λ_=>oJ _ _) _) nn)))
theorem TG0.opn {M:Mem} {x:TG0} {cs:Lv} (h:Rep M (aK x) cs): ∃ (A2:Oa) (c2:Nat),cs=[S x.af,S x.am,.slice A2 x.ai.length c2]∧Sli M 8 aY A2 c2 x.ai:=by
 rw[lL] at h
 obtain⟨oG,dq_0,mY,mZ,nc⟩:=h
 have ne:oG=_:=mZ
 obtain⟨nf,sF,ng,dg,nh⟩:=nc
 have ni:nf=_:=dg
 obtain⟨sG,se,pX,hZ,pY⟩:=nh
 obtain⟨Aq_2,kq_2,yq_2,zq_2⟩:=Rep.sli hZ
 have lq:se=[]:=pY
 exact⟨Aq_2,kq_2,by simp[mY,ne,ng,ni,pX,yq_2,lq],zq_2⟩
theorem TG0.shut {M:Mem} {a0:Bs} {a1:Bs} {a2:List TE0} {A2:Oa} {c2:Nat} (h2:Sli M 8 aY A2 c2 a2):Rep M (aK ⟨a0,a1,a2⟩) [S a0,S a1,.slice A2 a2.length c2]:=by
 rw[lL];exact⟨_,_,rfl,rfl,⟨_,_,rfl,rfl,⟨_,_,rfl,(Sli.rep h2),rfl⟩⟩⟩
theorem TG0.shutx {M:Mem} {x:TG0} {A2:Oa} {c2:Nat} (h2:Sli M 8 aY A2 c2 x.ai):Rep M (aK x) [S x.af,S x.am,.slice A2 x.ai.length c2]:=by
 have h:=TG0.shut (M:=M) (a0:=x.af) (a1:=x.am) (a2:=x.ai) h2
 rw[lL] at h ⊢
 exact h
structure TI0 where
 ax:Int
 ab:Int
 af:Bs
 am:Bs
 ai:List TE0
abbrev lTI0 (x : TI0) (A4 : Option Addr) (c4 : Nat) : List Value := [.int .i64 x.ax, .int .i8 x.ab, S x.af, S x.am, .slice A4 x.ai.length c4]
abbrev aTI0 (x : TI0) (A4 : Option Addr) (c4 : Nat) : Array Value := #[.int .i64 x.ax, .int .i8 x.ab, S x.af, S x.am, .slice A4 x.ai.length c4]
def aJ:TI0→Dat
 |⟨x0,x1,x2,x3,x4⟩=>.struct [(Dat.int .i64) x0,(Dat.int .i8) x1,Dat.str x2,Dat.str x3,(eL 8 aY) x4]
theorem gF (x:TI0):aJ x=.struct [(Dat.int .i64) x.ax,(Dat.int .i8) x.ab,Dat.str x.af,Dat.str x.am,(eL 8 aY) x.ai]:=by
 cases x
 simp[aJ,eL]
theorem dZ (x:TI0):Szd 5 (aJ x):=by rw[gF];exact(ca ((dX .i64) _) (ca ((dX .i8) _) (ca (dY _) (ca (dY _) (ca ((λ_=>oJ _ _) _) nn)))))
theorem TI0.opn {M:Mem} {x:TI0} {cs:Lv} (h:Rep M (aJ x) cs): ∃ (A4:Oa) (c4:Nat),cs=[.int .i64 x.ax,.int .i8 x.ab,S x.af,S x.am,.slice A4 x.ai.length c4]∧Sli M 8 aY A4 c4 x.ai:=by
 rw[gF] at h
 obtain⟨oG,dq_0,mY,mZ,nc⟩:=h
 have ne:oG=_:=mZ
 obtain⟨nf,sF,ng,dg,nh⟩:=nc
 have ni:nf=_:=dg
 obtain⟨sG,se,pX,hZ,pY⟩:=nh
 have yq_2:sG=_:=hZ
 obtain⟨cq_3,dq_3,eq_3,sH,gq_3⟩:=pY
 have yq_3:cq_3=_:=sH
 obtain⟨cq_4,dq_4,eq_4,hq_4,gq_4⟩:=gq_3
 obtain⟨Aq_4,kq_4,yq_4,zq_4⟩:=Rep.sli hq_4
 have lq:dq_4=[]:=gq_4
 exact⟨Aq_4,kq_4,by simp[mY,ne,ng,ni,pX,yq_2,eq_3,yq_3,eq_4,yq_4,lq],zq_4⟩
theorem TI0.shut {M:Mem} {a0:Int} {a1:Int} {a2:Bs} {a3:Bs} {a4:List TE0} {A4:Oa} {c4:Nat} (h4:Sli M 8 aY A4 c4 a4):Rep M (aJ ⟨a0,a1,a2,a3,a4⟩) [.int .i64 a0,.int .i8 a1,S a2,S a3,.slice A4 a4.length c4]:=by
 rw[gF];exact⟨_,_,rfl,rfl,⟨_,_,rfl,rfl,⟨_,_,rfl,rfl,⟨_,_,rfl,rfl,⟨_,_,rfl,(Sli.rep h4),rfl⟩⟩⟩⟩⟩
theorem TI0.shutx {M:Mem} {x:TI0} {A4:Oa} {c4:Nat} (h4:Sli M 8 aY A4 c4 x.ai):Rep M (aJ x) [.int .i64 x.ax,.int .i8 x.ab,S x.af,S x.am,.slice A4 x.ai.length c4]:=by
 have h:=TI0.shut (M:=M) (a0:=x.ax) (a1:=x.ab) (a2:=x.af) (a3:=x.am) (a4:=x.ai) h4
 rw[gF] at h ⊢
 exact h
structure TD0 where
 aq:Bool
 bC:Bool
 af:Bs
 deriving DecidableEq,Inhabited
abbrev lTD0 (x : TD0)  : List Value := [.bool x.aq, .bool x.bC, S x.af]
abbrev aTD0 (x : TD0)  : Array Value := #[.bool x.aq, .bool x.bC, S x.af]
abbrev vTD0 (x : TD0) : Value := .agg #[.bool x.aq, .bool x.bC, S x.af]
def bK:TD0→Dat
 |⟨x0,x1,x2⟩=>.struct [Dat.bool x0,Dat.bool x1,Dat.str x2]
theorem lM (x:TD0):bK x=.struct [Dat.bool x.aq,Dat.bool x.bC,Dat.str x.af]:=by
 cases x
 simp[bK,eL]
theorem szd_TD0 (x:TD0):Szd 3 (bK x):=by rw[lM];exact(ca (mw _) (ca (mw _) (ca (dY _) nn)))
theorem TD0.opn {M:Mem} {x:TD0} {cs:Lv} (h:Rep M (bK x) cs):cs=[.bool x.aq,.bool x.bC,S x.af]:=by
 rw[lM] at h
 obtain⟨oG,dq_0,mY,mZ,nc⟩:=h
 have ne:oG=_:=mZ
 obtain⟨nf,sF,ng,dg,nh⟩:=nc
 have ni:nf=_:=dg
 obtain⟨sG,se,pX,hZ,pY⟩:=nh
 have yq_2:sG=_:=hZ
 have lq:se=[]:=pY
 simp[mY,ne,ng,ni,pX,yq_2,lq]
theorem TD0.shut {M:Mem} {a0:Bool} {a1:Bool} {a2:Bs}:Rep M (bK ⟨a0,a1,a2⟩) [.bool a0,.bool a1,S a2]:=by
 rw[lM];exact⟨_,_,rfl,rfl,⟨_,_,rfl,rfl,⟨_,_,rfl,rfl,rfl⟩⟩⟩
theorem TD0.shutx {M:Mem} {x:TD0}:Rep M (bK x) [.bool x.aq,.bool x.bC,S x.af]:=by
 have h:=TD0.shut (M:=M) (a0:=x.aq) (a1:=x.bC) (a2:=x.af)
 rw[lM] at h ⊢
 exact h
structure TH0 where
 aB:Bs
 ab:Int
 bc:Bool
 deriving DecidableEq,Inhabited
abbrev lTH0 (x : TH0)  : List Value := [S x.aB, .int .i8 x.ab, .bool x.bc]
abbrev aTH0 (x : TH0)  : Array Value := #[S x.aB, .int .i8 x.ab, .bool x.bc]
abbrev vTH0 (x : TH0) : Value := .agg #[S x.aB, .int .i8 x.ab, .bool x.bc]
def dO:TH0→Dat
 |⟨x0,x1,x2⟩=>.struct [Dat.str x0,(Dat.int .i8) x1,Dat.bool x2]
theorem lN (x:TH0):dO x=.struct [Dat.str x.aB,(Dat.int .i8) x.ab,Dat.bool x.bc]:=by
 cases x
 simp[dO,eL]
theorem qH (x:TH0):Szd 3 (dO x):=by rw[lN];exact(ca (dY _) (ca ((dX .i8) _) (ca (mw _) nn)))
theorem TH0.opn {M:Mem} {x:TH0} {cs:Lv} (h:Rep M (dO x) cs):cs=[S x.aB,.int .i8 x.ab,.bool x.bc]:=by
 rw[lN] at h
 obtain⟨oG,dq_0,mY,mZ,nc⟩:=h
 have ne:oG=_:=mZ
 obtain⟨nf,sF,ng,dg,nh⟩:=nc
 have ni:nf=_:=dg
 obtain⟨sG,se,pX,hZ,pY⟩:=nh
 have yq_2:sG=_:=hZ
 have lq:se=[]:=pY
 simp[mY,ne,ng,ni,pX,yq_2,lq]
theorem TH0.shut {M:Mem} {a0:Bs} {a1:Int} {a2:Bool}:Rep M (dO ⟨a0,a1,a2⟩) [S a0,.int .i8 a1,.bool a2]:=by
 rw[lN];exact⟨_,_,rfl,rfl,⟨_,_,rfl,rfl,⟨_,_,rfl,rfl,rfl⟩⟩⟩
theorem TH0.shutx {M:Mem} {x:TH0}:Rep M (dO x) [S x.aB,.int .i8 x.ab,.bool x.bc]:=by
 have h:=TH0.shut (M:=M) (a0:=x.aB) (a1:=x.ab) (a2:=x.bc)
 rw[lN] at h ⊢
 exact h
structure TC0 where
 fL:List TG0
 au:Int
abbrev lTC0 (x : TC0) (A0 : Option Addr) (c0 : Nat) : List Value := [.slice A0 x.fL.length c0, .int .i64 x.au]
abbrev aTC0 (x : TC0) (A0 : Option Addr) (c0 : Nat) : Array Value := #[.slice A0 x.fL.length c0, .int .i64 x.au]
def gA:TC0→Dat
 |⟨x0,x1⟩=>.struct [(eL 3 aK) x0,(Dat.int .i64) x1]
theorem nX (x:TC0):gA x=.struct [(eL 3 aK) x.fL,(Dat.int .i64) x.au]:=by
 cases x
 simp[gA,eL]
theorem TC0.opn {M:Mem} {x:TC0} {cs:Lv} (h:Rep M (gA x) cs): ∃ (A0:Oa) (c0:Nat),cs=[.slice A0 x.fL.length c0,.int .i64 x.au]∧Sli M 3 aK A0 c0 x.fL:=by
 rw[nX] at h
 obtain⟨oG,dq_0,mY,mZ,nc⟩:=h
 obtain⟨Aq_0,kq_0,ne,zq_0⟩:=Rep.sli mZ
 obtain⟨nf,sF,ng,dg,nh⟩:=nc
 have ni:nf=_:=dg
 have lq:sF=[]:=nh
 exact⟨Aq_0,kq_0,by simp[mY,ne,ng,ni,lq],zq_0⟩
theorem TC0.shut {M:Mem} {a0:List TG0} {a1:Int} {A0:Oa} {c0:Nat} (h0:Sli M 3 aK A0 c0 a0):Rep M (gA ⟨a0,a1⟩) [.slice A0 a0.length c0,.int .i64 a1]:=by
 rw[nX];exact⟨_,_,rfl,(Sli.rep h0),⟨_,_,rfl,rfl,rfl⟩⟩
theorem TC0.shutx {M:Mem} {x:TC0} {A0:Oa} {c0:Nat} (h0:Sli M 3 aK A0 c0 x.fL):Rep M (gA x) [.slice A0 x.fL.length c0,.int .i64 x.au]:=by
 have h:=TC0.shut (M:=M) (a0:=x.fL) (a1:=x.au) h0
 rw[nX] at h ⊢
 exact h
structure TA0 where
 fL:List TG0
 au:Int
abbrev lTA0 (x : TA0) (A0 : Option Addr) (c0 : Nat) : List Value := [.slice A0 x.fL.length c0, .int .i64 x.au]
abbrev aTA0 (x : TA0) (A0 : Option Addr) (c0 : Nat) : Array Value := #[.slice A0 x.fL.length c0, .int .i64 x.au]
def eb:TA0→Dat
 |⟨x0,x1⟩=>.struct [(eL 3 aK) x0,(Dat.int .i64) x1]
theorem nY (x:TA0):eb x=.struct [(eL 3 aK) x.fL,(Dat.int .i64) x.au]:=by
 cases x
 simp[eb,eL]
theorem TA0.opn {M:Mem} {x:TA0} {cs:Lv} (h:Rep M (eb x) cs): ∃ (A0:Oa) (c0:Nat),cs=[.slice A0 x.fL.length c0,.int .i64 x.au]∧Sli M 3 aK A0 c0 x.fL:=by
 rw[nY] at h
 obtain⟨oG,dq_0,mY,mZ,nc⟩:=h
 obtain⟨Aq_0,kq_0,ne,zq_0⟩:=Rep.sli mZ
 obtain⟨nf,sF,ng,dg,nh⟩:=nc
 have ni:nf=_:=dg
 have lq:sF=[]:=nh
 exact⟨Aq_0,kq_0,by simp[mY,ne,ng,ni,lq],zq_0⟩
theorem TA0.shut {M:Mem} {a0:List TG0} {a1:Int} {A0:Oa} {c0:Nat} (h0:Sli M 3 aK A0 c0 a0):Rep M (eb ⟨a0,a1⟩) [.slice A0 a0.length c0,.int .i64 a1]:=by
 rw[nY];exact⟨_,_,rfl,(Sli.rep h0),⟨_,_,rfl,rfl,rfl⟩⟩
theorem TA0.shutx {M:Mem} {x:TA0} {A0:Oa} {c0:Nat} (h0:Sli M 3 aK A0 c0 x.fL):Rep M (eb x) [.slice A0 x.fL.length c0,.int .i64 x.au]:=by
 have h:=TA0.shut (M:=M) (a0:=x.fL) (a1:=x.au) h0
 rw[nY] at h ⊢
 exact h
structure TB0 where
 jc:Int
 fN:Int
 fX:TI0
abbrev lTB0 (x : TB0) (A6 : Option Addr) (c6 : Nat) : List Value := [.int .i64 x.jc, .int .i64 x.fN, .int .i64 x.fX.ax, .int .i8 x.fX.ab, S x.fX.af, S x.fX.am, .slice A6 x.fX.ai.length c6]
abbrev aTB0 (x : TB0) (A6 : Option Addr) (c6 : Nat) : Array Value := #[.int .i64 x.jc, .int .i64 x.fN, .int .i64 x.fX.ax, .int .i8 x.fX.ab, S x.fX.af, S x.fX.am, .slice A6 x.fX.ai.length c6]
def lO:TB0→Dat
 |⟨x0,x1,x2⟩=>.struct [(Dat.int .i64) x0,(Dat.int .i64) x1,aJ x2]
theorem lP (x:TB0):lO x=.struct [(Dat.int .i64) x.jc,(Dat.int .i64) x.fN,aJ x.fX]:=by
 cases x
 simp[lO,eL]
theorem TB0.opn {M:Mem} {x:TB0} {cs:Lv} (h:Rep M (lO x) cs): ∃ (A6:Oa) (c6:Nat),cs=[.int .i64 x.jc,.int .i64 x.fN,.int .i64 x.fX.ax,.int .i8 x.fX.ab,S x.fX.af,S x.fX.am,.slice A6 x.fX.ai.length c6]∧Sli M 8 aY A6 c6 x.fX.ai:=by
 rw[lP] at h
 obtain⟨oG,dq_0,mY,mZ,nc⟩:=h
 have ne:oG=_:=mZ
 obtain⟨nf,sF,ng,dg,nh⟩:=nc
 have ni:nf=_:=dg
 obtain⟨sG,se,pX,hZ,pY⟩:=nh
 rw[gF] at hZ
 obtain⟨cq_2_0,dq_2_0,eq_2_0,hq_2_0,gq_2_0⟩:=hZ
 have yq_2_0:cq_2_0=_:=hq_2_0
 obtain⟨cq_2_1,dq_2_1,eq_2_1,hq_2_1,gq_2_1⟩:=gq_2_0
 have yq_2_1:cq_2_1=_:=hq_2_1
 obtain⟨cq_2_2,dq_2_2,eq_2_2,hq_2_2,gq_2_2⟩:=gq_2_1
 have yq_2_2:cq_2_2=_:=hq_2_2
 obtain⟨cq_2_3,dq_2_3,eq_2_3,hq_2_3,gq_2_3⟩:=gq_2_2
 have yq_2_3:cq_2_3=_:=hq_2_3
 obtain⟨cq_2_4,dq_2_4,eq_2_4,hq_2_4,gq_2_4⟩:=gq_2_3
 obtain⟨Aq_2_4,kq_2_4,yq_2_4,zq_2_4⟩:=Rep.sli hq_2_4
 have lq_2:dq_2_4=[]:=gq_2_4
 have lq:se=[]:=pY
 exact⟨Aq_2_4,kq_2_4,by simp[mY,ne,ng,ni,pX,eq_2_0,yq_2_0,eq_2_1,yq_2_1,eq_2_2,yq_2_2,eq_2_3,yq_2_3,eq_2_4,yq_2_4,lq_2,lq],zq_2_4⟩
abbrev jU:TF0:=(⟨(0:Int),(false),(0:Int),([]:Bs),([]:List TF0),([]:List Bs)⟩:TF0)
abbrev aC:TE0:=(⟨([]:Bs),(false),(⟨(0:Int),(false),(0:Int),([]:Bs),([]:List TF0),([]:List Bs)⟩:TF0)⟩:TE0)
abbrev dU:TG0:=(⟨([]:Bs),([]:Bs),([]:List TE0)⟩:TG0)
abbrev ee:TI0:=(⟨(0:Int),(0:Int),([]:Bs),([]:Bs),([]:List TE0)⟩:TI0)
abbrev aX:TD0:=(⟨(false),(false),([]:Bs)⟩:TD0)
abbrev cd:TH0:=(⟨([]:Bs),(0:Int),(false)⟩:TH0)
abbrev iH:TC0:=(⟨([]:List TG0),(0:Int)⟩:TC0)
abbrev nN:TA0:=(⟨([]:List TG0),(0:Int)⟩:TA0)
abbrev z_TB0:TB0:=(⟨(0:Int),(0:Int),(⟨(0:Int),(0:Int),([]:Bs),([]:Bs),([]:List TE0)⟩:TI0)⟩:TB0)
def cL (n:Nat) (d0:Bs) (d1:Int) (G5:Int×Int×Int) (K1:Int×Int):Option (Lp (Int×Int) (Sum Unit Int)):=
    bif(decide (K1.2<G5.1)) then
     (aZ (inR .i64 (d1+K1.2))<|
     (aR d0 (d1+K1.2)).bind λjX=>
     ((bif(decide (((jX).toNat:Int)<128)) then
      (some ((true)))
       else
        some ((decide ((191:Int)<((jX).toNat:Int)))):Option Bool)).bind λG6=>
     bif G6 then
      (some (.br (.inl ())))
     else
      aZ (inR .i64 ((64:Int)*K1.1))<|
      aZ (inR .i64 (((64:Int)*K1.1)+ ((jX).toNat:Int)))<|
      aZ (inR .i64 ((((64:Int)*K1.1)+ ((jX).toNat:Int))-128))<|
      aZ (inR .i64 (K1.2+1))<|
      some (.nx ((((64:Int)*K1.1)+ ((jX).toNat:Int))-128,K1.2+1)))
    else
     some (.br (.inr K1.1))
def ly (n:Nat) (d0:Bs) (d1:Int):Option (Int×Int):=
 ((bif(decide (d1<0)) then
  (some ((true)))
   else
    some ((decide ((d0.length:Int)≤d1))):Option Bool)).bind λG1=>
 bif G1 then
  (some (((0:Int),(0:Int))))
 else
  (aR d0 d1).bind λcP=>
  ((bif(decide (((cP).toNat:Int)<128)) then
   (((some ((((cP).toNat:Int),(1:Int))):Option (Int×Int))).map Lp.br)
    else
     ((bif(decide ((192:Int)≤((cP).toNat:Int))) then
      (some ((decide (((cP).toNat:Int)<224))))
       else
        some ((false)):Option Bool)).bind λG2=>
     bif G2 then
      (some (.nx ((2:Int),bAnd .i64 ((cP).toNat:Int) (31:Int),(128:Int))))
     else
      ((bif(decide ((224:Int)≤((cP).toNat:Int))) then
       (some ((decide (((cP).toNat:Int)<240))))
        else
         some ((false)):Option Bool)).bind λG3=>
      bif G3 then
       (some (.nx ((3:Int),bAnd .i64 ((cP).toNat:Int) (15:Int),(2048:Int))))
      else
       ((bif(decide ((240:Int)≤((cP).toNat:Int))) then
        (some ((decide (((cP).toNat:Int)<248))))
         else
          some ((false)):Option Bool)).bind λG4=>
       bif G4 then
        (some (.nx ((4:Int),bAnd .i64 ((cP).toNat:Int) (7:Int),(65536:Int))))
       else
        ((some (((0:Int),(0:Int))):Option (Int×Int))).map Lp.br:Option (Lp (Int×Int×Int) (Int×Int)))).bind λj=>joinF j λG5=>
  aZ (inR .i64 (d1+G5.1))<|
  bif(decide ((d0.length:Int)<(d1+G5.1))) then
   (some (((0:Int),(0:Int))))
  else
   (aN (cL n d0 d1 G5) n (G5.2.1,(1:Int))).bind λQ1=>
   (match Q1 with
   |.inl G7=>some (((0:Int),(0:Int)))
   |.inr G8=>((bif(decide (G8<G5.2.2)) then
    (some ((true)))
    else
     bif(decide ((1114111:Int)<G8)) then
      (some ((true)))
     else
      bif(decide ((55296:Int)≤G8)) then
       (some ((decide (G8≤57343))))
      else
       some ((false)):Option Bool)).bind λG9=>
    bif G9 then
     (some (((0:Int),(0:Int))))
    else
     some ((G8,G5.1)))
set_option maxRecDepth 20000 in
theorem ref01_One_ok (n:Nat) (M:Mem) (d0:Bs) (d1:Int) (r:Int×Int) (hF:ly n d0 d1=some r):Ok Tryz.prog M 114 [S d0,iL d1] (λ_ v=>v=.tuple #[iL r.1,iL r.2]):=by
 unfold ly at hF
 intro M1 hM0 w0 H w p0
 refine Re 101 Tryz.func114 rfl λa0 f0=>RR (Ye f0 2 λ_ f=>ag (ag ?_))
 obtain⟨cX,bX,F1⟩:=bS hF
 refine bj (λa_5 W1=>∃G1:Bool,cX=G1∧∃V1:Mem,M1.le V1∧Frm 101 [(0,S d0),(1,iL d1),(19,bO G1)] a_5∧Hp w0 V1 (H) W1) ?_ ?_
 ·refine aI (Y f 3 λ_ f=>?_)
  rcases cE bX with⟨B1,F2⟩|⟨B1,F3⟩
  ·have U1:=dI.1 B1
   have f:=f.st 14 (cB B1)
   refine Ye f 5 λ_ f=>?_
   exact⟨(true),(sI F2).symm,M1,(mR _),f.kp,p0⟩
  ·have U2:=ap dI B1
   have f:=f.st 14 (cB B1)
   refine Ye f 5 λ_ f=>?_
   exact⟨(decide ((d0.length:Int)≤d1)),(sI F3).symm,M1,(mR _),f.kp,p0⟩
 ·rintro a_5 W1 ⟨G1,dg,V1,J1,f,N1⟩
  subst cX
  refine aH (RcF f F1 (λB2 F4=>?_) λB2 F5=>?_)
  ·refine RR (Ye f 2 λ_ f=>wp_ret (aS (bJ f rfl (Lk 4 (iL 0)) (Lk 5 (iL 0)) ?_)))
   cases sI F4
   exact⟨_,rfl,V1,J1,N1,rfl⟩
  ·refine St (RR (Y f 2 λ_ f=>?_))
   obtain⟨cP,S1,F6⟩:=bS F5
   refine Z f (Y41 rfl (l:=d0) (k:=.i64) (i:=d1) (aF S1) (aE S1)) λ_ f=>?_
   have f:=Frm.set f 22 (v:=.int .u8 ((d0.getD d1.toNat 0).toNat:Int)) (v':=.int .u8 ((cP).toNat:Int)) kr (congrArg (λc:UInt8=>Value.int .u8 ((c.toNat:Nat):Int)) (np S1))
   refine Y f 1 λ_ f=>?_
   have f:=Frm.set f 23 (v:=iL (IntKind.wrap .i64 (((cP).toNat:Int)))) (v':=iL ((cP).toNat:Int)) kr (congrArg (Value.int .i64) (sN _ (by simp) _))
   refine Ye f 1 λ_ f=>RR (Ye f 4 λ_ f=>ag ?_)
   obtain⟨jd,eW,F7⟩:=bS F6
   refine bj (λa_36 W5=>∃G5:Int×Int×Int,jd=.nx G5∧∃V5:Mem,V1.le V5∧Frm 101 [(0,S d0),(1,iL d1),(7,iL G5.1),(8,iL G5.2.1),(9,iL G5.2.2)] a_36∧Hp w0 V5 (H) W5) ?_ ?_
   ·refine wp_block (RR (Ye f 3 λ_ f=>RcF f eW (λB3 F8=>?_) λB3 F10=>?_))
    ·have U5:=dI.1 B3
     refine RR (Ye f 3 λ_ f=>wp_ret (bV ?_))
     have F9:=cC F8 F7
     refine aS (aS (bJ f rfl (Lk 4 (iL ((cP).toNat:Int))) (Lk 5 (iL 1)) ?_))
     cases sI F9
     exact⟨_,rfl,V1,J1,N1,rfl⟩
    ·have U6:=ap dI B3
     refine ag ?_
     obtain⟨tt,pZ,F11⟩:=bS F10
     refine bj (λa_17 W2=>∃G2:Bool,tt=G2∧∃V2:Mem,V1.le V2∧Frm 101 [(0,S d0),(1,iL d1),(6,iL ((cP).toNat:Int)),(29,bO G2)] a_17∧Hp w0 V2 (H) W2) ?_ ?_
     ·refine aI (Y f 3 λ_ f=>?_)
      rcases cE pZ with⟨B4,F12⟩|⟨B4,F13⟩
      ·have U7:=dI.1 B4
       have f:=f.st 32 (cB B4)
       refine Ye f 4 λ_ f=>?_
       exact⟨(decide (((cP).toNat:Int)<224)),(sI F12).symm,V1,(mR _),f.kp,N1⟩
      ·have U8:=ap dI B4
       have f:=f.st 32 (cB B4)
       refine Ye f 4 λ_ f=>?_
       exact⟨(false),(sI F13).symm,V1,(mR _),f.kp,N1⟩
     ·rintro a_17 W2 ⟨G2,hZ,V2,J2,f,N2⟩
      subst tt
      refine aH (RcF f F11 (λB5 F14=>?_) λB5 F15=>?_)
      ·refine RR (Ye f 1 λ_ f=>RR (Ye f 3 λ_ f=>aI (Y f 1 λ_ f=>aA rfl (cG (aH ?_)))))
       exact⟨((2:Int),bAnd .i64 ((cP).toNat:Int) (31:Int),(128:Int)),(sI F14).symm,V2,J2,f.kp,N2⟩
      ·refine ag ?_
       obtain⟨j_4,hj_4,F16⟩:=bS F15
       refine bj (λa_24 W3=>∃G3:Bool,j_4=G3∧∃V3:Mem,V2.le V3∧Frm 101 [(0,S d0),(1,iL d1),(6,iL ((cP).toNat:Int)),(38,bO G3)] a_24∧Hp w0 V3 (H) W3) ?_ ?_
       ·refine aI (Y f 3 λ_ f=>?_)
        rcases cE hj_4 with⟨B6,F17⟩|⟨B6,F18⟩
        ·have U11:=dI.1 B6
         have f:=f.st 41 (cB B6)
         refine Ye f 4 λ_ f=>?_
         exact⟨(decide (((cP).toNat:Int)<240)),(sI F17).symm,V2,(mR _),f.kp,N2⟩
        ·have U12:=ap dI B6
         have f:=f.st 41 (cB B6)
         refine Ye f 4 λ_ f=>?_
         exact⟨(false),(sI F18).symm,V2,(mR _),f.kp,N2⟩
       ·rintro a_24 W3 ⟨G3,sH,V3,J3,f,N3⟩
        subst j_4
        refine aH (RcF f F16 (λB7 F19=>?_) λB7 F20=>?_)
        ·refine RR (Ye f 1 λ_ f=>RR (Ye f 3 λ_ f=>aI (Y f 1 λ_ f=>aA rfl (cG (aH ?_)))))
         exact⟨((3:Int),bAnd .i64 ((cP).toNat:Int) (15:Int),(2048:Int)),(sI F19).symm,V3,(J2.trans J3),f.kp,N3⟩
        ·refine ag ?_
         obtain⟨j_5,hj_5,F21⟩:=bS F20
         refine bj (λa_31 W4=>∃G4:Bool,j_5=G4∧∃V4:Mem,V3.le V4∧Frm 101 [(0,S d0),(1,iL d1),(6,iL ((cP).toNat:Int)),(47,bO G4)] a_31∧Hp w0 V4 (H) W4) ?_ ?_
         ·refine aI (Y f 3 λ_ f=>?_)
          rcases cE hj_5 with⟨B8,F22⟩|⟨B8,F23⟩
          ·have U15:=dI.1 B8
           have f:=f.st 50 (cB B8)
           refine Ye f 4 λ_ f=>?_
           exact⟨(decide (((cP).toNat:Int)<248)),(sI F22).symm,V3,(mR _),f.kp,N3⟩
          ·have U16:=ap dI B8
           have f:=f.st 50 (cB B8)
           refine Ye f 4 λ_ f=>?_
           exact⟨(false),(sI F23).symm,V3,(mR _),f.kp,N3⟩
         ·rintro a_31 W4 ⟨G4,hq_4,V4,J4,f,N4⟩
          subst j_5
          refine aH (RcF f F21 (λB9 F24=>?_) λB9 F25=>?_)
          ·refine RR (Ye f 1 λ_ f=>RR (Ye f 3 λ_ f=>aI (Y f 1 λ_ f=>aA rfl (cG (aH ?_)))))
           exact⟨((4:Int),bAnd .i64 ((cP).toNat:Int) (7:Int),(65536:Int)),(sI F24).symm,V4,((J2.trans J3).trans J4),f.kp,N4⟩
          ·refine RR (Ye f 2 λ_ f=>wp_ret (bV ?_))
           have F26:=cC F25 F7
           refine aS (aS (bJ f rfl (Lk 4 (iL 0)) (Lk 5 (iL 0)) ?_))
           cases sI F26
           exact⟨_,rfl,V4,(((J1.trans J2).trans J3).trans J4),N4,rfl⟩
   ·rintro a_36 W5 ⟨G5,rfl,V5,J5,f,N5⟩
    refine aH (ag (RR (Y f 2 λ_ f=>?_)))
    obtain⟨O1,F27⟩:=nS F7
    refine Y f 1 λ_ f=>?_
    have f:=f.st 58 (iW O1)
    refine Ye f 3 λ_ f=>RcF f F27 (λB10 F28=>?_) λB10 F29=>?_
    ·have U19:=dI.1 B10
     refine RR (Ye f 2 λ_ f=>wp_ret (aS (bJ f rfl (Lk 4 (iL 0)) (Lk 5 (iL 0)) ?_)))
     cases sI F28
     exact⟨_,rfl,V5,(J1.trans J5),N5,rfl⟩
    ·have U20:=ap dI B10
     refine St (ag (RR (Ye f 1 λ_ f=>wp_block ?_)))
     obtain⟨Q1,bH,F30⟩:=bS F29
     refine wp_mono (Q:=λe a w=>(e=.ret∧(∃G7:Unit,Q1=.inl G7∧∃V8:Mem,V5.le V8∧Frm 101 [(4,iL 0),(5,iL 0)] a∧Hp w0 V8 (H) w))∨(e=.exit 1∧(∃G8:Int,Q1=.inr G8∧∃V9:Mem,V5.le V9∧Frm 101 [(7,iL G5.1),(8,iL G8),(9,iL G5.2.2)] a∧Hp w0 V9 (H) w))) (bu (n:=101) (w0:=w0) (M:=V5) (λ (I1,K1)=>[(0,S d0),(1,iL d1),(7,iL G5.1),(8,iL K1.1),(9,iL G5.2.2),(10,iL K1.2)]) (λ (I1,K1)=>(H)) (λ (I1,K1) MM=>aN (cL n d0 d1 G5) I1 K1=some Q1) (λ (I1,K1)=>I1) (n,(G5.2.1,(1:Int))) (f.kp) N5 bH ?_) ?_
     ·rintro⟨I1,K1⟩ V6 _ W6 J6 dc f N6
      have bI:=dc
      obtain⟨I2,jP,rfl,be,T1⟩:=aT bI
      unfold cL at be
      refine ag (RR (Ye f 3 λ_ f=>RcF f be (λB11 F31=>?_) λB11 F43=>?_))
      ·have U21:=dI.1 B11
       refine St (ag (wp_block (RR (Y f 3 λ_ f=>?_))))
       obtain⟨O2,F32⟩:=nS F31
       refine Y f 1 λ_ f=>?_
       have f:=f.st 70 (iW O2)
       obtain⟨jX,S2,F33⟩:=bS F32
       refine Z f (Y41 rfl (l:=d0) (k:=.i64) (i:=d1+K1.2) (aF S2) (aE S2)) λ_ f=>?_
       have f:=Frm.set f 71 (v:=.int .u8 ((d0.getD (d1+K1.2).toNat 0).toNat:Int)) (v':=.int .u8 ((jX).toNat:Int)) kr (congrArg (λc:UInt8=>Value.int .u8 ((c.toNat:Nat):Int)) (np S2))
       refine Y f 1 λ_ f=>?_
       have f:=Frm.set f 72 (v:=iL (IntKind.wrap .i64 (((jX).toNat:Int)))) (v':=iL ((jX).toNat:Int)) kr (congrArg (Value.int .i64) (sN _ (by simp) _))
       refine Ye f 1 λ_ f=>ag (ag ?_)
       obtain⟨j_6,hj_6,F34⟩:=bS F33
       refine bj (λa_52 W7=>∃G6:Bool,j_6=G6∧∃V7:Mem,V6.le V7∧Frm 101 [(0,S d0),(1,iL d1),(7,iL G5.1),(8,iL K1.1),(9,iL G5.2.2),(10,iL K1.2),(11,iL ((jX).toNat:Int)),(78,bO G6)] a_52∧Hp w0 V7 (H) W7) ?_ ?_
       ·refine aI (Y f 3 λ_ f=>?_)
        rcases cE hj_6 with⟨B12,F35⟩|⟨B12,F36⟩
        ·have U22:=dI.1 B12
         have f:=f.st 75 (cB B12)
         refine Ye f 3 λ_ f=>?_
         exact⟨(true),(sI F35).symm,V6,(mR _),f.kp,N6⟩
        ·have U23:=ap dI B12
         have f:=f.st 75 (cB B12)
         refine Ye f 3 λ_ f=>?_
         exact⟨(decide ((191:Int)<((jX).toNat:Int))),(sI F36).symm,V6,(mR _),f.kp,N6⟩
       ·rintro a_52 W7 ⟨G6,hq_6,V7,J7,f,N7⟩
        subst j_6
        refine aH (RcF f F34 (λB13 F37=>?_) λB13 F38=>?_)
        ·refine RR (Ye f 2 λ_ f=>wp_ret (aS (bV (aS (aS ?_)))))
         cases sI F37
         exact .inl ⟨rfl,(),(sI T1).symm,V7,(J6.trans J7),f.kp,N7⟩
        ·refine St (aI (Y f 1 λ_ f=>?_))
         obtain⟨O3,F39⟩:=nS F38
         refine Y f 1 λ_ f=>?_
         have f:=f.st 80 (iW O3)
         refine Y f 1 λ_ f=>?_
         obtain⟨O4,F40⟩:=nS F39
         refine Y f 1 λ_ f=>?_
         have f:=f.st 82 (iW O4)
         obtain⟨O5,F41⟩:=nS F40
         refine Y f 1 λ_ f=>?_
         have f:=f.st 83 (iW O5)
         refine Y f 1 λ_ f=>aA rfl (cG (aH (aI (Y f 1 λ_ f=>?_))))
         obtain⟨O6,F42⟩:=nS F41
         refine Y f 1 λ_ f=>?_
         have f:=f.st 66 (iW O6)
         refine Ye f 1 λ_ f=>?_
         cases sI F42
         exact⟨⟨I2,((((64:Int)*K1.1)+ ((jX).toNat:Int))-128,K1.2+1)⟩,Nat.lt_succ_self _,V7,(J6.trans J7),T1,f.kp,N7⟩
      ·have U26:=ap dI B11
       refine wp_exit (co (co ?_))
       cases sI F43
       exact .inr ⟨rfl,K1.1,(sI T1).symm,V6,J6,f.kp,N6⟩
     ·rintro _ _ W10 (⟨rfl,G7,rfl,V8,J8,f,N8⟩|⟨rfl,G8,rfl,V9,J9,f,N9⟩)
      ·refine bV (aS (bJ f rfl (Lk 4 (iL 0)) (Lk 5 (iL 0)) ?_))
       cases sI F30
       exact⟨_,rfl,V8,((J1.trans J5).trans J8),N8,rfl⟩
      ·refine iq (aH (ag (ag ?_)))
       obtain⟨j_7,hj_7,F44⟩:=bS F30
       refine bj (λa_73 W11=>∃G9:Bool,j_7=G9∧∃V10:Mem,V9.le V10∧Frm 101 [(7,iL G5.1),(8,iL G8),(98,bO G9)] a_73∧Hp w0 V10 (H) W11) ?_ ?_
       ·refine aI (Y f 4 λ_ f=>?_)
        rcases cE hj_7 with⟨B14,F45⟩|⟨B14,F46⟩
        ·have U27:=dI.1 B14
         have f:=f.st 87 (cB B14)
         refine Ye f 11 λ_ f=>?_
         exact⟨(true),(sI F45).symm,V9,(mR _),f.kp,N9⟩
        ·have U28:=ap dI B14
         have f:=f.st 87 (cB B14)
         refine Y f 4 λ_ f=>?_
         rcases cE F46 with⟨B15,F47⟩|⟨B15,F48⟩
         ·have U29:=dI.1 B15
          have f:=f.st 91 (cB B15)
          refine Ye f 7 λ_ f=>?_
          exact⟨(true),(sI F47).symm,V9,(mR _),f.kp,N9⟩
         ·have U30:=ap dI B15
          have f:=f.st 91 (cB B15)
          refine Y f 3 λ_ f=>?_
          rcases cE F48 with⟨B16,F49⟩|⟨B16,F50⟩
          ·have U31:=dI.1 B16
           have f:=f.st 94 (cB B16)
           refine Ye f 4 λ_ f=>?_
           exact⟨(decide (G8≤57343)),(sI F49).symm,V9,(mR _),f.kp,N9⟩
          ·have U32:=ap dI B16
           have f:=f.st 94 (cB B16)
           refine Ye f 4 λ_ f=>?_
           exact⟨(false),(sI F50).symm,V9,(mR _),f.kp,N9⟩
       ·rintro a_73 W11 ⟨G9,hq_7,V10,J10,f,N10⟩
        subst j_7
        refine aH (RcF f F44 (λB17 F51=>?_) λB17 F52=>?_)
        ·refine RR (Ye f 2 λ_ f=>wp_ret (aS (bJ f rfl (Lk 4 (iL 0)) (Lk 5 (iL 0)) ?_)))
         cases sI F51
         exact⟨_,rfl,V10,(((J1.trans J5).trans J9).trans J10),N10,rfl⟩
        ·refine St (RR (Ye f 4 λ_ f=>wp_ret (bJ f rfl (Lk 4 (iL G8)) (Lk 5 (iL G5.1)) ?_)))
         cases sI F52
         exact⟨_,rfl,V10,(((J1.trans J5).trans J9).trans J10),N10,rfl⟩
def cS (n:Nat) (d0:Bs) (K1:Int):Option (Lp Int (Sum Unit Unit)):=
    bif(decide (K1<(d0.length:Int))) then
     ((ly n d0 K1).bind λX1=>
     bif(decide (X1.2=0)) then
      (some (.br (.inl ())))
     else
      aZ (inR .i64 (K1+X1.2))<|
      some (.nx (K1+X1.2)))
    else
     some (.br (.inr ()))
def gG (n:Nat) (d0:Bs):Option Bool:=
 (aN (cS n d0) n (0:Int)).bind λQ1=>
 (match Q1 with
 |.inl G1=>some ((false))
 |.inr G2=>some ((true)))
theorem kv (n:Nat) (M:Mem) (d0:Bs) (r:Bool) (hF:gG n d0=some r):Ok Tryz.prog M 102 [S d0] (λ_ v=>v=bO r):=by
 unfold gG at hF
 intro M1 hM0 w0 H w p0
 refine Re 21 Tryz.func102 rfl λa0 f0=>RR (Ye f0 1 λ_ f=>RR (Ye f 1 λ_ f=>ag (wp_block ?_)))
 obtain⟨Q1,bH,F1⟩:=bS hF
 refine wp_mono (Q:=λe a w=>(e=.ret∧(∃G1:Unit,Q1=.inl G1∧∃V2:Mem,M1.le V2∧Frm 21 [(2,bO false)] a∧Hp w0 V2 (H) w))∨(e=.exit 0∧(∃G2:Unit,Q1=.inr G2∧∃V3:Mem,M1.le V3∧Frm 21 [] a∧Hp w0 V3 (H) w))) (bu (n:=21) (w0:=w0) (M:=M1) (λ (I1,K1)=>[(0,S d0),(3,iL K1)]) (λ (I1,K1)=>(H)) (λ (I1,K1) MM=>aN (cS n d0) I1 K1=some Q1) (λ (I1,K1)=>I1) (n,(0:Int)) (f.kp) p0 bH ?_) ?_
 ·rintro⟨I1,K1⟩ V1 _ W1 J1 dc f N1
  have bI:=dc
  obtain⟨I2,jP,rfl,be,T1⟩:=aT bI
  unfold cS at be
  refine ag (RR (Ye f 4 λ_ f=>RcF f be (λB1 F2=>?_) λB1 F7=>?_))
  ·have U1:=dI.1 B1
   refine St (wp_block (RR (Y f 2 λ_ f=>?_)))
   obtain⟨X1,S1,F3⟩:=bS F2
   refine Y18 f N1 (ref01_One_ok n _ d0 K1 X1 S1) λW2 N2 _ f=>Ye f 5 λ_ f=>ag (RR (Ye f 2 λ_ f=>RcF f F3 (λB2 F4=>?_) λB2 F5=>?_))
   ·have U2:=dI.1 B2
    refine RR (Ye f 1 λ_ f=>wp_ret (aS (bV (aS ?_))))
    cases sI F4
    exact .inl ⟨rfl,(),(sI T1).symm,V1,J1,f.kp,N2⟩
   ·have U3:=ap dI B2
    refine St (aI (Y f 2 λ_ f=>?_))
    obtain⟨O1,F6⟩:=nS F5
    refine Y f 1 λ_ f=>?_
    have f:=f.st 20 (iW O1)
    refine Y f 1 λ_ f=>aA rfl (cG (aH ?_))
    cases sI F6
    exact⟨⟨I2,K1+X1.2⟩,Nat.lt_succ_self _,V1,J1,T1,f.kp,N2⟩
  ·have U4:=ap dI B1
   refine wp_exit (co (co ?_))
   cases sI F7
   exact .inr ⟨rfl,(),(sI T1).symm,V1,J1,f.kp,N1⟩
 ·rintro _ _ W5 (⟨rfl,G1,rfl,V2,J2,f,N3⟩|⟨rfl,G2,rfl,V3,J3,f,N4⟩)
  ·refine bV (aS (ao f rfl (Lk 2 (bO false)) ?_))
   cases sI F1
   exact⟨_,rfl,V2,J2,N3,rfl⟩
  ·refine iq (aH (RR (Ye f 1 λ_ f=>wp_ret (ao f rfl (Lk 2 (bO true)) ?_))))
   cases sI F1
   exact⟨_,rfl,V3,J3,N4,rfl⟩
def cY (n:Nat) (d0:TF0) (K1:Int×Int):Option (Lp (Int×Int) Int):=
    bif(decide (K1.2<((d0.ae.length:Nat):Int))) then
     ((aR d0.ae K1.2).bind λX1=>
     aZ (inR .i64 (K1.1+ (min (X1.length:Int) (10000:Int))))<|
     aZ (inR .i64 (K1.2+1))<|
     some (.nx (K1.1+ (min (X1.length:Int) (10000:Int)),K1.2+1)))
    else
     some (.br K1.1)
def cA (n:Nat) (rec_ref03_weight:TF0→Int→Option Int) (d0:TF0) (d1:Int) (K2:Int×Int):Option (Lp (Int×Int) Int):=
    ((bif(decide (K2.2<((d0.ac.length:Nat):Int))) then
     (some ((decide (K2.1≤10000))))
      else
       some ((false)):Option Bool)).bind λG3=>
    bif G3 then
     ((aR d0.ac K2.2).bind λX2=>
     aZ (inR .i64 (d1-1))<|
     (rec_ref03_weight X2 (d1-1)).bind λX3=>
     aZ (inR .i64 (K2.1+X3))<|
     aZ (inR .i64 (K2.2+1))<|
     some (.nx (K2.1+X3,K2.2+1)))
    else
     some (.br K2.1)
def gH (n:Nat) (rec_ref03_weight:TF0→Int→Option Int) (d0:TF0) (d1:Int):Option Int:=
 ((bif(decide (d1=0)) then
  (some ((true)))
   else
    bif(decide ((3000:Int)<((d0.ac.length:Nat):Int))) then
     (some ((true)))
    else
     some ((decide ((3000:Int)<((d0.ae.length:Nat):Int)))):Option Bool)).bind λG1=>
 bif G1 then
  (some ((10000:Int)))
 else
  aZ (inR .i64 ((1:Int)+ (min (d0.ah.length:Int) (10000:Int))))<|
  (aN (cY n d0) n ((1:Int)+ (min (d0.ah.length:Int) (10000:Int)),(0:Int))).bind λG2=>
  (aN (cA n rec_ref03_weight d0 d1) n (G2,(0:Int))).bind λG4=>
  some (G4)
set_option maxRecDepth 20000 in
theorem oO (n:Nat) (rec_ref03_weight:TF0→Int→Option Int) (hrec_ref03_weight: ∀ (M:Mem) (c0:Lv) (d0:TF0) (h0:Rep M (ay d0) c0) (d1:Int) (r:Int) (hF:rec_ref03_weight d0 d1=some r),Ok Tryz.prog M 77 [.agg c0.toArray,iL d1] (λ_ v=>v=iL r)) (M:Mem) (c0:Lv) (d0:TF0) (h0:Rep M (ay d0) c0) (d1:Int) (r:Int) (hF:gH n rec_ref03_weight d0 d1=some r):Ok Tryz.prog M 77 [.agg c0.toArray,iL d1] (λ_ v=>v=iL r):=by
 unfold gH at hF
 intro M1 hM0 w0 H w p0
 replace h0:=Rep.mono hM0 _ _ h0
 obtain⟨Z1,P1,Z2,P2,rfl,B1,B2⟩:=TF0.opn h0
 refine Re 65 Tryz.func77 rfl λa0 f0=>RR (Y13 (cs:=(aTF0 d0 Z1 P1 Z2 P2)) (T:=73) f0 p0 λQ1 V1 W1 J1 R1 N1 _ f=>?_)
 have R2:=bR R1
 refine Ye f 1 λ_ f=>ag (ag ?_)
 obtain⟨cX,bX,F1⟩:=bS hF
 refine bj (λa_12 W2=>∃G1:Bool,cX=G1∧∃V2:Mem,V1.le V2∧Frm 65 [(1,iL d1),(2,pP Q1),(21,bO G1)] a_12∧Hp w0 V2 (H) W2) ?_ ?_
 ·refine aI (Y f 3 λ_ f=>?_)
  rcases cE bX with⟨B3,F2⟩|⟨B3,F3⟩
  ·have U1:=dI.1 B3
   have f:=f.st 10 (cB B3)
   refine Ye f 11 λ_ f=>?_
   exact⟨(true),(sI F2).symm,V1,(mR _),f.kp,N1⟩
  ·have U2:=ap dI B3
   have f:=f.st 10 (cB B3)
   refine Y f 1 λ_ f=>Y15 f N1 R2 4 rfl λ_ f=>Y f 4 λ_ f=>?_
   rcases cE F3 with⟨B4,F4⟩|⟨B4,F5⟩
   ·have U3:=dI.1 B4
    have f:=f.st 16 (cB B4)
    refine Ye f 5 λ_ f=>?_
    exact⟨(true),(sI F4).symm,V1,(mR _),f.kp,N1⟩
   ·have U4:=ap dI B4
    have f:=f.st 16 (cB B4)
    refine Y f 1 λ_ f=>Y15 f N1 R2 5 rfl λ_ f=>Ye f 3 λ_ f=>?_
    exact⟨(decide ((3000:Int)<((d0.ae.length:Nat):Int))),(sI F5).symm,V1,(mR _),f.kp,N1⟩
 ·rintro a_12 W2 ⟨G1,dg,V2,J2,f,N2⟩
  subst cX
  refine aH (RcF f F1 (λB5 F6=>?_) λB5 F7=>?_)
  ·refine RR (Ye f 1 λ_ f=>wp_ret (aS (ao f rfl (Lk 4 (iL 10000)) ?_)))
   cases sI F6
   exact⟨_,rfl,V2,(J1.trans J2),N2,rfl⟩
  ·refine St (RR (Y f 1 λ_ f=>Y15 f N2 (fzu J2 R2) 3 rfl λ_ f=>Y f 1 λ_ f=>Z (v:=iL (min (d0.ah.length:Int) (10000:Int))) f (X_min (k:=.i64) (a:=(d0.ah.length:Int)) (b:=(10000:Int)) rfl kr kr) λ_ f=>?_))
   obtain⟨O1,F8⟩:=nS F7
   refine Y f 1 λ_ f=>?_
   have f:=f.st 26 (iW O1)
   refine Ye f 1 λ_ f=>ag (RR (Ye f 1 λ_ f=>wp_block ?_))
   obtain⟨Q2,bH,F9⟩:=bS F8
   refine wp_mono (Q:=λe a w=>(e=.exit 0∧(∃G2:Int,Q2=G2∧∃V4:Mem,V2.le V4∧Frm 65 [(1,iL d1),(2,pP Q1),(5,iL G2)] a∧Hp w0 V4 (H) w))) (bu (n:=65) (w0:=w0) (M:=V2) (λ (I1,K1)=>[(1,iL d1),(2,pP Q1),(5,iL K1.1),(6,iL K1.2)]) (λ (I1,K1)=>(H)) (λ (I1,K1) MM=>aN (cY n d0) I1 K1=some Q2) (λ (I1,K1)=>I1) (n,((1:Int)+ (min (d0.ah.length:Int) (10000:Int)),(0:Int))) (f.kp) N2 bH ?_) ?_
   ·rintro⟨I1,K1⟩ V3 _ W3 J3 dc f N3
    have bI:=dc
    obtain⟨I2,jP,rfl,be,T1⟩:=aT bI
    unfold cY at be
    refine ag (RR (Y f 2 λ_ f=>Y15 f N3 (fzu (J2.trans J3) R2) 5 rfl λ_ f=>Ye f 2 λ_ f=>RcF f be (λB6 F10=>?_) λB6 F14=>?_))
    ·have U7:=dI.1 B6
     refine St (ag (wp_block (aI (Y f 2 λ_ f=>Y15 f N3 (fzu (J2.trans J3) R2) 5 rfl λ_ f=>Y f 1 λ_ f=>?_))))
     obtain⟨X1,S1,F11⟩:=bS F10
     obtain⟨C1,cP,dS,-,D1,R3⟩:=Sli.at_ (B2.mono ((J1.trans J2).trans J3)) S1
     obtain rfl:cP=[S X1]:=D1
     refine Z f (Y34 dS rfl (len:=d0.ae.length) (cap:=P2) (k:=.i64) (i:=K1.2) (e:=9) (sz:=1) (aF S1) (aE S1)) λ_ f=>Y15 f N3 R3 0 rfl λ_ f=>Y f 1 λ_ f=>Z (v:=iL (min (X1.length:Int) (10000:Int))) f (X_min (k:=.i64) (a:=(X1.length:Int)) (b:=(10000:Int)) rfl kr kr) λ_ f=>?_
     obtain⟨O2,F12⟩:=nS F11
     refine Y f 1 λ_ f=>?_
     have f:=f.st 42 (iW O2)
     refine Y f 1 λ_ f=>aA rfl (cG (aH (aI (Y f 1 λ_ f=>?_))))
     obtain⟨O3,F13⟩:=nS F12
     refine Y f 1 λ_ f=>?_
     have f:=f.st 33 (iW O3)
     refine Ye f 1 λ_ f=>?_
     cases sI F13
     exact⟨⟨I2,(K1.1+ (min (X1.length:Int) (10000:Int)),K1.2+1)⟩,Nat.lt_succ_self _,V3,J3,T1,f.kp,N3⟩
    ·have U8:=ap dI B6
     refine wp_exit (co (co ?_))
     cases sI F14
     exact⟨rfl,K1.1,(sI T1).symm,V3,J3,f.kp,N3⟩
   ·rintro _ _ W5 ⟨rfl,G2,hq_,V4,J4,f,N4⟩
    subst Q2
    refine iq (aH (ag (RR (Ye f 1 λ_ f=>wp_block ?_))))
    obtain⟨Q3,sf,F15⟩:=bS F9
    refine wp_mono (Q:=λe a w=>(e=.exit 2∧(∃G4:Int,Q3=G4∧∃V7:Mem,V4.le V7∧Frm 65 [(5,iL G4)] a∧Hp w0 V7 (H) w))) (bu (n:=65) (w0:=w0) (M:=V4) (λ (I3,K2)=>[(1,iL d1),(2,pP Q1),(5,iL K2.1),(7,iL K2.2)]) (λ (I3,K2)=>(H)) (λ (I3,K2) MM=>aN (cA n rec_ref03_weight d0 d1) I3 K2=some Q3) (λ (I3,K2)=>I3) (n,(G2,(0:Int))) (f.kp) N4 sf ?_) ?_
    ·rintro⟨I3,K2⟩ V5 _ W6 J5 I_2 f N5
     have sg:=I_2
     obtain⟨I4,r_2,rfl,nj,T2⟩:=aT sg
     unfold cA at nj
     refine ag (ag ?_)
     obtain⟨jd,eW,F16⟩:=bS nj
     refine bj (λa_46 W7=>∃G3:Bool,jd=G3∧∃V6:Mem,V5.le V6∧Frm 65 [(1,iL d1),(2,pP Q1),(5,iL K2.1),(7,iL K2.2),(51,bO G3)] a_46∧Hp w0 V6 (H) W7) ?_ ?_
     ·refine aI (Y f 2 λ_ f=>Y15 f N5 (fzu ((J2.trans J4).trans J5) R2) 4 rfl λ_ f=>Y f 3 λ_ f=>?_)
      rcases cE eW with⟨B7,F17⟩|⟨B7,F18⟩
      ·have U9:=dI.1 B7
       have f:=f.st 48 (cB B7)
       refine Ye f 3 λ_ f=>?_
       exact⟨(decide (K2.1≤10000)),(sI F17).symm,V5,(mR _),f.kp,N5⟩
      ·have U10:=ap dI B7
       have f:=f.st 48 (cB B7)
       refine Ye f 3 λ_ f=>?_
       exact⟨(false),(sI F18).symm,V5,(mR _),f.kp,N5⟩
     ·rintro a_46 W7 ⟨G3,hZ,V6,J6,f,N6⟩
      subst jd
      refine aH (RcF f F16 (λB8 F19=>?_) λB8 F25=>?_)
      ·refine St (ag (wp_block (aI (Y f 2 λ_ f=>Y15 f N6 (fzu (((J2.trans J4).trans J5).trans J6) R2) 4 rfl λ_ f=>Y f 1 λ_ f=>?_))))
       obtain⟨X2,S2,F20⟩:=bS F19
       obtain⟨C2,jX,lp,-,D2,R4⟩:=Sli.at_ (B1.mono ((((J1.trans J2).trans J4).trans J5).trans J6)) S2
       obtain⟨Z3,P3,Z4,P4,rfl,B9,B10⟩:=TF0.opn D2
       refine Z f (Y34 lp rfl (len:=d0.ac.length) (cap:=P1) (k:=.i64) (i:=K2.2) (e:=73) (sz:=6) (aF S2) (aE S2)) λ_ f=>Z f (Y36 (cs:=(lTF0 X2 Z3 P3 Z4 P4)) rfl (ad:=C2.add (K2.2.toNat*6)) (λj v h=>N6.cell (R4 j v h))) λ_ f=>Y f 1 λ_ f=>?_
       obtain⟨O4,F21⟩:=nS F20
       refine Y f 1 λ_ f=>?_
       have f:=f.st 61 (iW O4)
       obtain⟨X3,S3,F22⟩:=bS F21
       refine Y18 f N6 (hrec_ref03_weight _ _ X2 (TF0.shutx (x:=X2) B9 B10) (d1-1) X3 S3) λW8 N7 _ f=>?_
       obtain⟨O5,F23⟩:=nS F22
       refine Y f 1 λ_ f=>?_
       have f:=f.st 63 (iW O5)
       refine Y f 1 λ_ f=>aA rfl (cG (aH (aI (Y f 1 λ_ f=>?_))))
       obtain⟨O6,F24⟩:=nS F23
       refine Y f 1 λ_ f=>?_
       have f:=f.st 53 (iW O6)
       refine Ye f 1 λ_ f=>?_
       cases sI F24
       exact⟨⟨I4,(K2.1+X3,K2.2+1)⟩,Nat.lt_succ_self _,V6,(J5.trans J6),T2,f.kp,N7⟩
      ·refine wp_exit (co (co ?_))
       cases sI F25
       exact⟨rfl,K2.1,(sI T2).symm,V6,(J5.trans J6),f.kp,N6⟩
    ·rintro _ _ W10 ⟨rfl,G4,hq_,V7,J7,f,N8⟩
     subst Q3
     refine iq (aH (RR (Ye f 2 λ_ f=>wp_ret (ao f rfl (Lk 4 (iL G4)) ?_))))
     cases sI F15
     exact⟨_,rfl,V7,(((J1.trans J2).trans J4).trans J7),N8,rfl⟩
def cx (n:Nat):Nat→TF0→Int→Option Int
 |0=>λ_ _=>none
 |k+1=>gH n (cx n k)
def lQ (n:Nat) (d0:TF0) (d1:Int):Option Int:=cx n n d0 d1
theorem qp (n:Nat) (M:Mem) (c0:Lv) (d0:TF0) (h0:Rep M (ay d0) c0) (d1:Int) (r:Int) (hF:lQ n d0 d1=some r):Ok Tryz.prog M 77 [.agg c0.toArray,iL d1] (λ_ v=>v=iL r):=by
 have key: ∀ (k:Nat) (M:Mem) (c0:Lv) (d0:TF0) (h0:Rep M (ay d0) c0) (d1:Int) (r:Int) (hF:cx n k d0 d1=some r),Ok Tryz.prog M 77 [.agg c0.toArray,iL d1] (λ_ v=>v=iL r):=by
  intro k
  induction k with
  |zero=>intro M c0 d0 h0 d1 r hF;simp[cx] at hF
  |succ k ih=>intro M c0 d0 h0 d1 r hF;exact oO n (cx n k) ih M c0 d0 h0 d1 r hF
 exact key n M c0 d0 h0 d1 r hF
def iI (n:Nat) (d0:TF0):Option Bool:=
 (lQ n d0 (30:Int)).bind λX1=>
 some ((decide ((5000:Int)<X1)))
theorem ra (n:Nat) (M:Mem) (c0:Lv) (d0:TF0) (h0:Rep M (ay d0) c0) (r:Bool) (hF:iI n d0=some r):Ok Tryz.prog M 56 [.agg c0.toArray] (λ_ v=>v=bO r):=by
 unfold iI at hF
 intro M1 hM0 w0 H w p0
 replace h0:=Rep.mono hM0 _ _ h0
 obtain⟨Z1,P1,Z2,P2,rfl,B1,B2⟩:=TF0.opn h0
 refine Re 6 Tryz.func56 rfl λa0 f0=>RR (Y13 (cs:=(aTF0 d0 Z1 P1 Z2 P2)) (T:=73) f0 p0 λQ1 V1 W1 J1 R1 N1 _ f=>?_)
 have R2:=bR R1
 refine Ye f 1 λ_ f=>RR (Z f (Y36 (cs:=(lTF0 d0 Z1 P1 Z2 P2)) rfl (ad:=⟨Q1,0,none⟩) (λj v h=>N1.cell (R2 j v h))) λ_ f=>?_)
 obtain⟨X1,S1,F1⟩:=bS hF
 refine Y18 f N1 (qp n _ _ d0 (TF0.shutx (x:=d0) (B1.mono J1) (B2.mono J1)) (30:Int) X1 S1) λW2 N2 _ f=>Ye f 2 λ_ f=>wp_ret (ao f rfl (Lk 2 (bO (decide ((5000:Int)<X1)))) ?_)
 cases sI F1
 exact⟨_,rfl,V1,J1,N2,rfl⟩
mutual
def cb:TF0→List TF0
 |⟨k,b,n,t,l,ks⟩=>⟨k,b,n,t,l,ks⟩::bF l
def bF:List TF0→List TF0
 |[]=>[]
 |x::r=>cb x++bF r
end
theorem eh (v:TF0):cb v=v::bF v.ac:=by cases v;rw[cb]
theorem walkVs_drop {l:List TF0} {i:Nat} {x:TF0} (h:l[i]? =some x):bF (l.drop i)=cb x++bF (l.drop (i+1)):=by
 obtain⟨hi,hx⟩:=List.getElem?_eq_some_iff.1 h
 rw[List.drop_eq_getElem_cons hi,hx,bF]
theorem nZ {v x:TF0} (h:x∈v.ac):SizeOf.sizeOf x<SizeOf.sizeOf v:=by
 have:=List.sizeOf_lt_of_mem h
 cases v
 simp only[TF0.mk.sizeOf_spec]
 dsimp only at this
 omega
theorem walkV_pos (v:TF0):1≤(cb v).length:=by rw[eh,List.length_cons];omega
theorem rb: ∀l:List TF0,l.length≤(bF l).length
 |[]=>Nat.zero_le _
 |x::r=>by
  have h1:=rb r
  have h2:=walkV_pos x
  rw[bF,List.length_append,List.length_cons]
  omega
theorem kw: ∀ {l:List TF0} {x:TF0},x∈l→(cb x).length≤(bF l).length
 |y::r,x,h=>by
  rw[bF,List.length_append]
  rcases List.mem_cons.1 h with rfl|h
  ·omega
  ·have:=kw h
   omega
def valsV (M:Mem) (x:TF0) (vs:Lv):Prop:=∃cs,vs=[.agg cs.toArray]∧Rep M (ay x) cs
def WalkPost {σ β:Type} (J:σ→Mem→List Ent→Prop) (Jx:β→Mem→List Ent→Prop) (r:Lp σ β) (w0:World) (M1:Mem) (H:List Ent):Ending→World→Prop:=λe w'=>
 ∃M' E',M1.le M'∧Hp w0 M' (E'++H) w'∧match r with
  |.nx s'=>e=.returned (.bool true)∧J s' M' E'
  |.br b=>e=.returned (.bool false)∧Jx b M' E'
theorem lR {σ β:Type} {J:σ→Mem→List Ent→Prop} {Jx:β→Mem→List Ent→Prop} {r:Lp σ β} {w0:World} {M1:Mem} {H:List Ent}: ¬LetsOut (bodyPost Tryz.prog Tryz.f110 (WalkPost J Jx r w0 M1 H)):=by
 rintro⟨a,w,M',E',_,_,h⟩
 cases r with
 |nx s=>cases h.1
 |br b=>cases h.1
set_option maxRecDepth 100000 in
theorem walkIns (by_ bs l : Nat) {σ β : Type} (Y : σ → TF0 → Option (Lp σ β)) (J : σ → Mem → List Ent → Prop) (Jx : β → Mem → List Ent → Prop) (hJ : Grows J) (hY : Yld Tryz.prog l valsV J Jx Y) :
  ∀ (m : Nat) (v : TF0), SizeOf.sizeOf v < m → (cb v).length ≤ 9223372036854775806 → ∀ (s0 : σ) (r : Lp σ β), lx Y (cb v) s0 = some r → ∀ (M : Mem) (ad : Addr) (c0 : List Value), Rep M (ay v) c0 → (∀ j u, c0[j]? = some u → M.cell? (ad.add j) = some u) →
   M.cell? ⟨by_, 0, none⟩ = some (.func (.yield l) #[] #[]) → M.cell? ⟨bs, 0, none⟩ = some (.func (.func 110) #[] #[.pointer (some ⟨by_, 0, none⟩), .pointer (some ⟨bs, 0, none⟩)]) →
   ∀ w0 M1 E H w, M.le M1 → J s0 M1 E → Hp w0 M1 (E ++ H) w → Calls Tryz.prog 110 [.pointer (some ad), .pointer (some ⟨by_, 0, none⟩), .pointer (some ⟨bs, 0, none⟩)].toArray w (WalkPost J Jx r w0 M1 H)
 | 0, v, hm => fun _ _ _ => absurd hm (by omega)
 | m + 1, v, hm => by
  intro hw0 s0 r hfold M ad c0 h0 q0 hby hbs w0 M1 E H w hM0 hj p0
  replace h0 := Rep.mono hM0 _ _ h0
  replace q0 := fun j u h => hM0.cell (q0 j u h)
  replace hby := hM0.cell hby
  replace hbs := hM0.cell hbs
  have hvl : v.ac.length < 9223372036854775806 := by
   have h1 := rb v.ac
   rw [eh, List.length_cons] at hw0
   omega
  rw [eh] at hfold
  obtain ⟨r1, hy1, hfold⟩ := Option.bind_eq_some_iff.1 hfold
  have hrep := h0
  obtain ⟨A_1, nk, A_2, mo, rfl, h_1, h_2⟩ := TF0.opn h0
  refine aD 30 Tryz.func110 rfl rfl (by simp) (fun a0 f0 => ?_)
  replace f0 : Frm 30 [(0, .pointer (some ad)), (1, .pointer (some ⟨by_, 0, none⟩)), (2, .pointer (some ⟨bs, 0, none⟩))] a0 := f0
  refine ag ?_
  refine aI ?_
  refine iP (L' := [(0, .pointer (some ad)), (1, .pointer (some ⟨by_, 0, none⟩)), (2, .pointer (some ⟨bs, 0, none⟩))]) (w' := w) f0 1 [0, 1, 2] (by kernel_rfl) (fun a_1 f_1 => ?_)
  refine aA rfl ?_
  refine aH ?_
  refine ag ?_
  refine ag ?_
  -- the call of yield
  refine RI_out (RI_drawT 4 p0 (by kernel_rfl) (by kernel_rfl) (ed (ed lR)) (by kernel_rfl) (fun w p0 => ?_))
  refine bT (v := .func (.yield l) #[] #[]) f_1 (by kernel_rfl) (by kernel_rfl) rfl rfl (gz (v := .func (.yield l) #[] #[]) rfl (ad := ⟨by_, 0, none⟩) (by kernel_rfl) (by kernel_rfl) (p0.cell hby)) (fun a_2 f_2 => ?_)
  refine bT (v := .pointer (some ad)) f_2 (by kernel_rfl) (by kernel_rfl) rfl rfl (by kernel_rfl) (fun a_3 f_3 => ?_)
  refine bT (v := .pointer (some ad)) f_3 (by kernel_rfl) (by kernel_rfl) rfl rfl (by kernel_rfl) (fun a_4 f_4 => ?_)
  refine bT (v := .agg #[.int .i8 v.ab, .bool v.ak, .int .i64 v.an, S v.ah, .slice A_1 v.ac.length nk, .slice A_2 v.ae.length mo]) f_4 (by kernel_rfl) (by kernel_rfl) rfl rfl
   (X_loadN (cs := [.int .i8 v.ab, .bool v.ak, .int .i64 v.an, S v.ah, .slice A_1 v.ac.length nk, .slice A_2 v.ae.length mo]) rfl (ad := ad) (by kernel_rfl) (by kernel_rfl) (fun j u h => p0.cell (q0 j u h))) (fun a_5 f_5 => ?_)
  refine lJ rfl ?_
  obtain ⟨fn, tmps, asg, bd, hrun, hR⟩ := hY s0 v r1 hy1 w0 M1 E H w _ hj ⟨_, rfl, hrep⟩ p0
  refine WI_round f_5 (by kernel_rfl) (by kernel_rfl) rfl rfl (fun c e => by cases e) (hx := Eq.trans (by kernel_rfl) hrun) hR ?_
  rintro e w_1 ⟨M2, E2, hM2, p_1, hr⟩
  cases r1 with
  | br b =>
   obtain ⟨rfl, hjx⟩ := hr
   refine ⟨_, rfl, fun a_6 f_6 => ?_⟩
   refine oM (ro := none) (ed (ed lR)) _ (by kernel_rfl) _ _ ?_
   refine iP (L' := [(0, .pointer (some ad)), (1, .pointer (some ⟨by_, 0, none⟩)), (2, .pointer (some ⟨bs, 0, none⟩)), (11, .bool true)]) (w' := w_1) f_6 1 [0, 1, 2, 11] (by kernel_rfl) (fun a_7 f_7 => ?_)
   refine aA rfl ?_
   refine aH ?_
   refine qL f_7 (by kernel_rfl) (by kernel_rfl) ?_
   refine ag ?_
   refine aI ?_
   refine iP (L' := [(4, .bool false)]) (w' := w_1) f_7 1 [4] (by kernel_rfl) (fun a_8 f_8 => ?_)
   refine aA rfl ?_
   refine aH ?_
   refine wp_ret ?_
   refine aS ?_
   refine ao f_8 rfl (by kernel_rfl : Vc.look _ 4 = some (.bool false)) ?_
   obtain rfl := Option.some.inj hfold
   exact ⟨M2, E2, hM2, p_1, rfl, hjx⟩
  | nx s1 =>
   obtain ⟨rfl, hj1⟩ := hr
   refine ⟨_, rfl, fun a_6 f_6 => ?_⟩
   refine oM (ro := none) (ed (ed lR)) _ (by kernel_rfl) _ _ ?_
   refine iP (L' := [(0, .pointer (some ad)), (1, .pointer (some ⟨by_, 0, none⟩)), (2, .pointer (some ⟨bs, 0, none⟩)), (11, .bool false)]) (w' := w_1) f_6 1 [0, 1, 2, 11] (by kernel_rfl) (fun a_7 f_7 => ?_)
   refine aA rfl ?_
   refine aH ?_
   refine qM f_7 (by kernel_rfl) (by kernel_rfl) ?_
   refine wp_skip ?_
   refine aH ?_
   replace q0 := fun j u h => hM2.cell (q0 j u h)
   replace hby := hM2.cell hby
   replace hbs := hM2.cell hbs
   replace h_1 := h_1.mono hM2
   replace hM0 := hM0.trans hM2
   replace hfold : lx Y (bF v.ac) s1 = some r := hfold
   refine ag ?_
   refine ag ?_
   refine aI ?_
   refine iP (L' := [(0, .pointer (some ad)), (1, .pointer (some ⟨by_, 0, none⟩)), (2, .pointer (some ⟨bs, 0, none⟩)), (14, .pointer (some (ad.add 4)))]) (w' := w_1) f_7 3 [0, 1, 2, 14] (by kernel_rfl) (fun a_8 f_8 => ?_)
   refine ls (v := .slice A_1 v.ac.length nk) f_8 (by kernel_rfl) (by kernel_rfl) rfl rfl (gz (v := .slice A_1 v.ac.length nk) rfl (ad := ad.add 4) (by kernel_rfl) (by kernel_rfl) (p_1.cell (q0 4 _ rfl))) (fun a_9 f_9 => ?_)
   refine iP (L' := [(0, .pointer (some ad)), (1, .pointer (some ⟨by_, 0, none⟩)), (2, .pointer (some ⟨bs, 0, none⟩)), (16, .int .i64 ((v.ac.length : Nat) : Int)), (17, .int .i64 0)]) (w' := w_1) f_9 2 [0, 1, 2, 16, 17] (by kernel_rfl) (fun qa f_10 => ?_)
   refine aA rfl ?_
   refine aH ?_
   refine wp_block ?_
   refine wp_mono (Q := fun e a w => (e = .exit 0 ∧ ∃ s' M' E', r = .nx s' ∧ M1.le M' ∧ J s' M' E' ∧ Frm 30 [(0, .pointer (some ad))] a ∧ Hp w0 M' (E' ++ H) w) ∨ (e = .ret ∧ ∃ b M' E', r = .br b ∧ M1.le M' ∧ Jx b M' E' ∧ Frm 30 [(4, .bool false)] a ∧ Hp w0 M' (E' ++ H) w))
    (bu (n := 30) (w0 := w0) (M := M2) (fun (x : Nat × σ × List Ent) => [(0, .pointer (some ad)), (1, .pointer (some ⟨by_, 0, none⟩)), (2, .pointer (some ⟨bs, 0, none⟩)), (16, .int .i64 ((v.ac.length : Nat) : Int)), (17, .int .i64 (x.1 : Int))]) (fun x => x.2.2 ++ H)
     (fun x (MM : Mem) => J x.2.1 MM x.2.2 ∧ lx Y (bF (v.ac.drop x.1)) x.2.1 = some r ∧ x.1 ≤ v.ac.length) (fun x => v.ac.length - x.1) (0, s1, E2) (f_10.keep (ks := [0, 1, 2, 16, 17]) (by kernel_rfl)) p_1 ⟨hj1, by rw [List.drop_zero]; exact hfold, Nat.zero_le _⟩ ?_) ?_
   ·rintro ⟨i, s, Es⟩ M_3 pm w_2 hM3 ⟨hjs, hfs, hi⟩ f_11 p_2
    dsimp only at hjs hfs hi
    replace f_11 : Frm 30 [(0, .pointer (some ad)), (1, .pointer (some ⟨by_, 0, none⟩)), (2, .pointer (some ⟨bs, 0, none⟩)), (16, .int .i64 ((v.ac.length : Nat) : Int)), (17, .int .i64 (i : Int))] pm := f_11
    replace p_2 : Hp w0 M_3 (Es ++ H) w_2 := p_2
    refine ag ?_
    refine aI ?_
    refine iP (L' := [(0, .pointer (some ad)), (1, .pointer (some ⟨by_, 0, none⟩)), (2, .pointer (some ⟨bs, 0, none⟩)), (16, .int .i64 ((v.ac.length : Nat) : Int)), (17, .int .i64 (i : Int)), (18, .bool (decide ((i : Int) < ((v.ac.length : Nat) : Int))))]) (w' := w_2) f_11 1 [0, 1, 2, 16, 17, 18] (by kernel_rfl) (fun a_12 f_12 => ?_)
    refine aA rfl ?_
    refine aH ?_
    refine ag ?_
    refine R_cond f_12 (b := decide ((i : Int) < ((v.ac.length : Nat) : Int))) (by kernel_rfl) (by kernel_rfl) (fun h_3 => ?_) (fun h_3 => ?_)
    ·have k_1 : i < v.ac.length := by have := of_decide_eq_true h_3; omega
     refine wp_skip ?_
     refine aH ?_
     refine ag ?_
     refine wp_block ?_
     refine ag ?_
     refine aI ?_
     refine iP (L' := [(0, .pointer (some ad)), (1, .pointer (some ⟨by_, 0, none⟩)), (2, .pointer (some ⟨bs, 0, none⟩)), (5, .int .i64 (i : Int)), (16, .int .i64 ((v.ac.length : Nat) : Int)), (17, .int .i64 (i : Int))]) (w' := w_2) f_12 2 [0, 1, 2, 5, 16, 17] (by kernel_rfl) (fun a_13 f_13 => ?_)
     refine aA rfl ?_
     refine aH ?_
     have hx : v.ac[i]? = some v.ac[i] := List.getElem?_eq_getElem k_1
     have hgx : aR v.ac (i : Int) = some v.ac[i] := by unfold aR; rw [if_pos (by omega)]; exact hx
     rw [walkVs_drop hx, sS] at hfs
     obtain ⟨r2, hr2, hfs⟩ := Option.bind_eq_some_iff.1 hfs
     obtain ⟨ad_1, cP, dS, hl_1, hr_1, hc_1⟩ := Sli.at_ (h_1.mono hM3) hgx
     refine ag ?_
     refine kV 7 p_2 (by kernel_rfl) (by kernel_rfl) (fun w_3 p_3 => ?_)
     refine bT (v := .func (.func 110) #[] #[.pointer (some ⟨by_, 0, none⟩), .pointer (some ⟨bs, 0, none⟩)]) f_13 (by kernel_rfl) (by kernel_rfl) rfl rfl (gz (v := .func (.func 110) #[] #[.pointer (some ⟨by_, 0, none⟩), .pointer (some ⟨bs, 0, none⟩)]) rfl (ad := ⟨bs, 0, none⟩) (by kernel_rfl) (by kernel_rfl) (p_3.cell (hM3.cell hbs))) (fun a_14 f_14 => ?_)
     refine bT (v := .pointer (some ad)) f_14 (by kernel_rfl) (by kernel_rfl) rfl rfl (by kernel_rfl) (fun a_15 f_15 => ?_)
     refine bT (v := .pointer (some ad)) f_15 (by kernel_rfl) (by kernel_rfl) rfl rfl (by kernel_rfl) (fun a_16 f_16 => ?_)
     refine bT (v := .pointer (some (ad.add 4))) f_16 (by kernel_rfl) (by kernel_rfl) rfl rfl (by kernel_rfl) (fun a_17 f_17 => ?_)
     refine bT (v := .slice A_1 v.ac.length nk) f_17 (by kernel_rfl) (by kernel_rfl) rfl rfl (gz (v := .slice A_1 v.ac.length nk) rfl (ad := ad.add 4) (by kernel_rfl) (by kernel_rfl) (p_3.cell (hM3.cell (q0 4 _ rfl)))) (fun a_18 f_18 => ?_)
     refine bT (v := .int .i64 (i : Int)) f_18 (by kernel_rfl) (by kernel_rfl) rfl rfl (by kernel_rfl) (fun a_19 f_19 => ?_)
     refine bT (v := .pointer (some (ad_1.add ((i : Int).toNat * 6)))) f_19 (by kernel_rfl) (by kernel_rfl) rfl rfl (jZ dS rfl (len := v.ac.length) (cap := nk) (k := .i64) (i := (i : Int)) (by kernel_rfl) (by kernel_rfl) (e := 73) (by kernel_rfl) (sz := 6) (by kernel_rfl) (aF hgx) (aE hgx)) (fun a_20 f_20 => ?_)
     refine lJ rfl ?_
     have hcall := walkIns by_ bs l Y J Jx hJ hY m v.ac[i] (by have := nZ (v := v) (List.getElem_mem k_1); omega) (by
      have h1 := kw (List.getElem_mem k_1)
      have h2 := hw0
      rw [eh, List.length_cons] at h2
      omega) s r2 hr2 M_3 _ cP hr_1 hc_1 (hM3.cell hby) (hM3.cell hbs) w0 M_3 Es H w_3 (Mem.le_refl _) hjs p_3
     refine W_call (R := fun v w' => ∃ M' E', M_3.le M' ∧ Hp w0 M' (E' ++ H) w' ∧ match r2 with
      | .nx s' => v = .bool true ∧ J s' M' E'
      | .br b => v = .bool false ∧ Jx b M' E') f_20 (by kernel_rfl) (by kernel_rfl) rfl rfl (by kernel_rfl) (hcall.mono fun e w' ⟨M', E', g1, g2, g3⟩ => ?_) ?_
     ·cases r2 with
      | nx s' => exact ⟨_, g3.1, M', E', g1, g2, rfl, g3.2⟩
      | br b => exact ⟨_, g3.1, M', E', g1, g2, rfl, g3.2⟩
     rintro v_1 w_4 ⟨M4, E4, hM4, p_4, g4⟩ a_21 f_21
     cases r2 with
     | br b =>
      obtain ⟨rfl, hjx⟩ := g4
      obtain rfl := Option.some.inj hfs
      refine iP (L' := [(28, .bool true)]) (w' := w_4) f_21 1 [28] (by kernel_rfl) (fun a_22 f_22 => ?_)
      refine aA rfl ?_
      refine aH ?_
      refine qL f_22 (by kernel_rfl) (by kernel_rfl) ?_
      refine ag ?_
      refine aI ?_
      refine iP (L' := [(4, .bool false)]) (w' := w_4) f_22 1 [4] (by kernel_rfl) (fun a_23 f_23 => ?_)
      refine aA rfl ?_
      refine aH ?_
      refine wp_ret ?_
      refine bV ?_
      refine aS ?_
      refine aS ?_
      exact .inr ⟨rfl, b, M4, E4, rfl, hM2.trans (hM3.trans hM4), hjx, f_23, p_4⟩
     | nx s2 =>
      obtain ⟨rfl, hj2⟩ := g4
      replace hfs : lx Y (bF (v.ac.drop (i + 1))) s2 = some r := hfs
      refine iP (L' := [(0, .pointer (some ad)), (1, .pointer (some ⟨by_, 0, none⟩)), (2, .pointer (some ⟨bs, 0, none⟩)), (16, .int .i64 ((v.ac.length : Nat) : Int)), (17, .int .i64 (i : Int)), (28, .bool false)]) (w' := w_4) f_21 1 [0, 1, 2, 16, 17, 28] (by kernel_rfl) (fun a_22 f_22 => ?_)
      refine aA rfl ?_
      refine aH ?_
      refine qM f_22 (by kernel_rfl) (by kernel_rfl) ?_
      refine wp_skip ?_
      refine cG ?_
      refine aH ?_
      refine aI ?_
      have hin : inR .i64 ((i : Int) + 1) := inR_mk.2 ⟨by omega, by omega⟩
      refine iP (L' := [(0, .pointer (some ad)), (1, .pointer (some ⟨by_, 0, none⟩)), (2, .pointer (some ⟨bs, 0, none⟩)), (16, .int .i64 ((v.ac.length : Nat) : Int)), (29, .int .i64 (IntKind.wrap .i64 ((i : Int) + 1)))]) (w' := w_4) f_22 1 [0, 1, 2, 16, 29] (by kernel_rfl) (fun a_23 f_23 => ?_)
      have f_24 := Frm.set f_23 29 (v := .int .i64 (IntKind.wrap .i64 ((i : Int) + 1))) (v' := .int .i64 (((i + 1 : Nat) : Int))) (by kernel_rfl) (congrArg (Value.int .i64) ((inR_wrap hin).trans (by omega)))
      have f_25 : Frm 30 [(0, .pointer (some ad)), (1, .pointer (some ⟨by_, 0, none⟩)), (2, .pointer (some ⟨bs, 0, none⟩)), (16, .int .i64 ((v.ac.length : Nat) : Int)), (29, .int .i64 (((i + 1 : Nat) : Int)))] a_23 := f_24.keep (ks := [0, 1, 2, 16, 29]) (by kernel_rfl)
      refine iP (L' := [(0, .pointer (some ad)), (1, .pointer (some ⟨by_, 0, none⟩)), (2, .pointer (some ⟨bs, 0, none⟩)), (16, .int .i64 ((v.ac.length : Nat) : Int)), (17, .int .i64 (((i + 1 : Nat) : Int)))]) (w' := w_4) f_25 1 [0, 1, 2, 16, 17] (by kernel_rfl) (fun a_26 f_26 => ?_)
      refine aA rfl ?_
      refine aH ?_
      exact ⟨(i + 1, s2, E4), by dsimp only; omega, M4, hM3.trans hM4, ⟨hj2, hfs, by dsimp only; omega⟩, f_26, p_4⟩
    ·have k_1 : ¬ (i < v.ac.length) := fun h => by
      have := of_decide_eq_false h_3
      omega
     refine wp_exit ?_
     refine co ?_
     refine co ?_
     have : v.ac.drop i = [] := List.drop_eq_nil_of_le (by omega)
     rw [this] at hfs
     obtain rfl := Option.some.inj hfs
     exact .inl ⟨rfl, s, M_3, Es, rfl, hM2.trans hM3, hjs, f_12.keep (ks := [0]) (by kernel_rfl), p_2⟩
   ·rintro _ a_24 w_4 (⟨rfl, s', M', E', rfl, g1, g2, f_29, p_3⟩ | ⟨rfl, b, M', E', rfl, g1, g2, f_29, p_3⟩)
    ·refine iq ?_
     refine aH ?_
     refine ag ?_
     refine aI ?_
     refine iP (L' := [(4, .bool true)]) (w' := w_4) f_29 1 [4] (by kernel_rfl) (fun a_25 f_30 => ?_)
     refine aA rfl ?_
     refine aH ?_
     refine wp_ret ?_
     refine ao f_30 rfl (by kernel_rfl : Vc.look _ 4 = some (.bool true)) ?_
     exact ⟨M', E', g1, p_3, rfl, g2⟩
    ·refine bV ?_
     refine aS ?_
     refine ao f_29 rfl (by kernel_rfl : Vc.look _ 4 = some (.bool false)) ?_
     exact ⟨M', E', g1, p_3, rfl, g2⟩
end Go.Proofs.YtkhdpnamfndonaaGreatDoor
end
section
namespace Go.Vc
open Go
theorem mpS {α β:Type} (x:α) (f:α→β): (some x).map f=some (f x):=(Option.map_some x f).trans (Eq.refl _)
theorem jN {τ Λ:Type} (x:τ) (k:τ→Option Λ):joinF (.nx x) k=k x:=(Eq.refl (joinF (.nx x) k)).trans (Eq.refl _)
theorem jB {τ Λ:Type} (l:Λ) (k:τ→Option Λ):joinF (.br l) k=some l:=(Eq.refl (joinF (.br l) k)).trans (Eq.refl _)
theorem sU (l:Bs) (hne:l≠ []):
 (Lib.decodeL l=(65533,1)∧128≤(l.getD 0 0).toNat)∨
 ∃r w,Lib.decodeL l=(r,w)∧w≤l.length∧1≤w∧w≤4∧(∀j,1≤j→j<w→(l.getD j 0).toNat / 64=2)∧((w=1∧(l.getD 0 0).toNat<128∧r=(l.getD 0 0).toNat)∨(1<w∧128≤r∧192≤(l.getD 0 0).toNat))∧r≤1114111:=by
 have hl:0<l.length:=List.length_pos_iff.2 hne
 rw[Lib.decodeL_N]
 rcases Lib.decodeN_shape l.length (l.getD 0 0).toNat (l.getD 1 0).toNat (l.getD 2 0).toNat (l.getD 3 0).toNat with⟨c,e⟩|⟨c1,c2,c3,cv,e⟩|⟨c1,c2,c3,c4,cv,cs,e⟩|⟨c1,c2,c3,c4,c5,cv,cw,e⟩|e
 ·exact .inr ⟨_,_,e,by omega,by omega,by omega,λj h1 h2=>by omega,.inl ⟨rfl,c,rfl⟩,by omega⟩
 ·refine .inr ⟨_,_,e,by omega,by omega,by omega,λj h1 h2=>?_,.inr ⟨by omega,by omega,by omega⟩,by omega⟩
  obtain rfl:j=1:=by omega
  exact c3
 ·refine .inr ⟨_,_,e,by omega,by omega,by omega,λj h1 h2=>?_,.inr ⟨by omega,by omega,by omega⟩,by omega⟩
  obtain rfl|rfl:j=1∨j=2:=by omega
  ·exact c3
  ·exact c4
 ·refine .inr ⟨_,_,e,by omega,by omega,by omega,λj h1 h2=>?_,.inr ⟨by omega,by omega,by omega⟩,by omega⟩
  obtain rfl|rfl|rfl:j=1∨j=2∨j=3:=by omega
  ·exact c3
  ·exact c4
  ·exact c5
 ·by_cases h: (l.getD 0 0).toNat<128
  ·refine .inr ⟨_,_,Lib.decodeN_ascii _ _ _ _ _ h,by omega,by omega,by omega,λj h1 h2=>by omega,.inl ⟨rfl,h,rfl⟩,by omega⟩
  ·exact .inl ⟨e,by omega⟩
end Go.Vc
end
section
namespace Go.Proofs.YtkhdpnamfndonaaGreatDoor
open Go Go.Vc Go.RowKit
def cM (n:Nat) (d0:TF0) (d1:TF0) (K1:Int):Option (Lp Int (Sum Unit Unit)):=
    bif(decide (K1<((d0.ae.length:Nat):Int))) then
     ((aR d0.ae K1).bind λX1=>
     (aR d1.ae K1).bind λX2=>
     bif(!(decide (X1=X2))) then
      (some (.br (.inl ())))
     else
      aZ (inR .i64 (K1+1))<|
      some (.nx (K1+1)))
    else
     some (.br (.inr ()))
def cN (n:Nat) (rec_ref03_Same:TF0→TF0→Option Bool) (d0:TF0) (d1:TF0) (K2:Int):Option (Lp Int (Sum Unit Unit)):=
    bif(decide (K2<((d0.ac.length:Nat):Int))) then
     ((aR d0.ac K2).bind λX3=>
     (aR d1.ac K2).bind λX4=>
     (rec_ref03_Same X3 X4).bind λX5=>
     bif !X5 then
      (some (.br (.inl ())))
     else
      aZ (inR .i64 (K2+1))<|
      some (.nx (K2+1)))
    else
     some (.br (.inr ()))
def eS (n:Nat) (rec_ref03_Same:TF0→TF0→Option Bool) (d0:TF0) (d1:TF0):Option Bool:=
 ((bif(!(decide (d0.ab=d1.ab))) then
  (some ((true)))
   else
    bif(!(d0.ak==d1.ak)) then
     (some ((true)))
    else
     bif(!(decide (d0.an=d1.an))) then
      (some ((true)))
     else
      bif(!(decide (d0.ah=d1.ah))) then
       (some ((true)))
      else
       bif(!(decide (((d0.ac.length:Nat):Int)=((d1.ac.length:Nat):Int)))) then
        (some ((true)))
       else
        some ((!(decide (((d0.ae.length:Nat):Int)=((d1.ae.length:Nat):Int))))):Option Bool)).bind λG1=>
 bif G1 then
  (some ((false)))
 else
  (aN (cM n d0 d1) n (0:Int)).bind λQ3=>
  (match Q3 with
  |.inl G2=>some ((false))
  |.inr G3=>(aN (cN n rec_ref03_Same d0 d1) n (0:Int)).bind λQ4=>
   (match Q4 with
   |.inl G4=>some ((false))
   |.inr G5=>some ((true))))
set_option maxRecDepth 20000 in
theorem qq (n:Nat) (rec_ref03_Same:TF0→TF0→Option Bool) (hrec_ref03_Same: ∀ (M:Mem) (c0:Lv) (d0:TF0) (h0:Rep M (ay d0) c0) (c1:Lv) (d1:TF0) (h1:Rep M (ay d1) c1) (r:Bool) (hF:rec_ref03_Same d0 d1=some r),Ok Tryz.prog M 54 [.agg c0.toArray,.agg c1.toArray] (λ_ v=>v=bO r)) (M:Mem) (c0:Lv) (d0:TF0) (h0:Rep M (ay d0) c0) (c1:Lv) (d1:TF0) (h1:Rep M (ay d1) c1) (r:Bool) (hF:eS n rec_ref03_Same d0 d1=some r):Ok Tryz.prog M 54 [.agg c0.toArray,.agg c1.toArray] (λ_ v=>v=bO r):=by
 unfold eS at hF
 intro M1 hM0 w0 H w p0
 replace h0:=Rep.mono hM0 _ _ h0
 replace h1:=Rep.mono hM0 _ _ h1
 obtain⟨Z1,P1,Z2,P2,rfl,B1,B2⟩:=TF0.opn h0
 obtain⟨Z3,P3,Z4,P4,rfl,B3,B4⟩:=TF0.opn h1
 refine Re 88 Tryz.func54 rfl λa0 f0=>RR (Y13 (cs:=(aTF0 d0 Z1 P1 Z2 P2)) (T:=73) f0 p0 λQ1 V1 W1 J1 R1 N1 _ f=>?_)
 have R2:=bR R1
 refine Y13 (cs:=(aTF0 d1 Z3 P3 Z4 P4)) (T:=73) f N1 λQ2 V2 W2 J2 R3 N2 _ f=>?_
 have R4:=bR R3
 refine Ye f 1 λ_ f=>ag (ag ?_)
 obtain⟨cX,bX,F1⟩:=bS hF
 refine bj (λa_40 W3=>∃G1:Bool,cX=G1∧∃V3:Mem,V2.le V3∧Frm 88 [(2,pP Q1),(3,pP Q2),(50,bO G1)] a_40∧Hp w0 V3 (H) W3) ?_ ?_
 ·refine aI (Y f 1 λ_ f=>Y15 f N2 (fzu J2 R2) 0 rfl λ_ f=>Y f 1 λ_ f=>Y15 f N2 R4 0 rfl λ_ f=>Y f 2 λ_ f=>?_)
  rcases cE bX with⟨B5,F2⟩|⟨B5,F3⟩
  ·have U1: ¬ (d0.ab=d1.ab):=(av dI).1 B5
   have f:=f.st 12 (cB B5)
   refine Ye f 38 λ_ f=>?_
   exact⟨(true),(sI F2).symm,V2,(mR _),f.kp,N2⟩
  ·have U2: ¬ (¬ (d0.ab=d1.ab)):=ap (av dI) B5
   have f:=f.st 12 (cB B5)
   refine Y f 1 λ_ f=>Y15 f N2 (fzu J2 R2) 1 rfl λ_ f=>Y f 1 λ_ f=>Y15 f N2 R4 1 rfl λ_ f=>Y f 3 λ_ f=>?_
   rcases cE F3 with⟨B6,F4⟩|⟨B6,F5⟩
   ·have U3: (d0.ak==d1.ak)=false:=by simpa using B6
    have f:=f.st 19 (cB B6)
    refine Ye f 31 λ_ f=>?_
    exact⟨(true),(sI F4).symm,V2,(mR _),f.kp,N2⟩
   ·have U4: (d0.ak==d1.ak)=true:=by simpa using B6
    have f:=f.st 19 (cB B6)
    refine Y f 1 λ_ f=>Y15 f N2 (fzu J2 R2) 2 rfl λ_ f=>Y f 1 λ_ f=>Y15 f N2 R4 2 rfl λ_ f=>Y f 3 λ_ f=>?_
    rcases cE F5 with⟨B7,F6⟩|⟨B7,F7⟩
    ·have U5: ¬ (d0.an=d1.an):=(av dI).1 B7
     have f:=f.st 26 (cB B7)
     refine Ye f 24 λ_ f=>?_
     exact⟨(true),(sI F6).symm,V2,(mR _),f.kp,N2⟩
    ·have U6: ¬ (¬ (d0.an=d1.an)):=ap (av dI) B7
     have f:=f.st 26 (cB B7)
     refine Y f 1 λ_ f=>Y15 f N2 (fzu J2 R2) 3 rfl λ_ f=>Y f 1 λ_ f=>Y15 f N2 R4 3 rfl λ_ f=>Z f (Y43 rfl (l:=d0.ah) (m:=d1.ah)) λ_ f=>Y f 2 λ_ f=>?_
     rcases cE F7 with⟨B8,F8⟩|⟨B8,F9⟩
     ·have U7: ¬ (d0.ah=d1.ah):=(av dI).1 B8
      have f:=f.st 33 (cB B8)
      refine Ye f 17 λ_ f=>?_
      exact⟨(true),(sI F8).symm,V2,(mR _),f.kp,N2⟩
     ·have U8: ¬ (¬ (d0.ah=d1.ah)):=ap (av dI) B8
      have f:=f.st 33 (cB B8)
      refine Y f 1 λ_ f=>Y15 f N2 (fzu J2 R2) 4 rfl λ_ f=>Y f 2 λ_ f=>Y15 f N2 R4 4 rfl λ_ f=>Y f 4 λ_ f=>?_
      rcases cE F9 with⟨B9,F10⟩|⟨B9,F11⟩
      ·have U9: ¬ (((d0.ac.length:Nat):Int)=((d1.ac.length:Nat):Int)):=(av dI).1 B9
       have f:=f.st 42 (cB B9)
       refine Ye f 8 λ_ f=>?_
       exact⟨(true),(sI F10).symm,V2,(mR _),f.kp,N2⟩
      ·have U10: ¬ (¬ (((d0.ac.length:Nat):Int)=((d1.ac.length:Nat):Int))):=ap (av dI) B9
       have f:=f.st 42 (cB B9)
       refine Y f 1 λ_ f=>Y15 f N2 (fzu J2 R2) 5 rfl λ_ f=>Y f 2 λ_ f=>Y15 f N2 R4 5 rfl λ_ f=>Ye f 3 λ_ f=>?_
       exact⟨(!(decide (((d0.ae.length:Nat):Int)=((d1.ae.length:Nat):Int)))),(sI F11).symm,V2,(mR _),f.kp,N2⟩
 ·rintro a_40 W3 ⟨G1,dg,V3,J3,f,N3⟩
  subst cX
  refine aH (RcF f F1 (λB10 F12=>?_) λB10 F13=>?_)
  ·refine RR (Ye f 1 λ_ f=>wp_ret (aS (ao f rfl (Lk 4 (bO false)) ?_)))
   cases sI F12
   exact⟨_,rfl,V3,((J1.trans J2).trans J3),N3,rfl⟩
  ·refine St (ag (RR (Ye f 1 λ_ f=>wp_block ?_)))
   obtain⟨Q3,bH,F14⟩:=bS F13
   refine wp_mono (Q:=λe a w=>(e=.ret∧(∃G2:Unit,Q3=.inl G2∧∃V5:Mem,V3.le V5∧Frm 88 [(4,bO false)] a∧Hp w0 V5 (H) w))∨(e=.exit 0∧(∃G3:Unit,Q3=.inr G3∧∃V6:Mem,V3.le V6∧Frm 88 [(2,pP Q1),(3,pP Q2)] a∧Hp w0 V6 (H) w))) (bu (n:=88) (w0:=w0) (M:=V3) (λ (I1,K1)=>[(2,pP Q1),(3,pP Q2),(5,iL K1)]) (λ (I1,K1)=>(H)) (λ (I1,K1) MM=>aN (cM n d0 d1) I1 K1=some Q3) (λ (I1,K1)=>I1) (n,(0:Int)) (f.kp) N3 bH ?_) ?_
   ·rintro⟨I1,K1⟩ V4 _ W4 J4 dc f N4
    have bI:=dc
    obtain⟨I2,jP,rfl,be,T1⟩:=aT bI
    unfold cM at be
    refine ag (RR (Y f 2 λ_ f=>Y15 f N4 (fzu ((J2.trans J3).trans J4) R2) 5 rfl λ_ f=>Ye f 2 λ_ f=>RcF f be (λB11 F15=>?_) λB11 F21=>?_))
    ·have U13:=dI.1 B11
     refine St (ag (wp_block (ag (cR N4 kr kr (Y5 default f 1 λ_ f=>Y4 f (fzu ((J2.trans J3).trans J4) R2) 5 rfl λ_ f=>Y5 default f 1 λ_ f=>?_)))))
     obtain⟨X1,S1,F16⟩:=bS F15
     obtain⟨C1,cP,dS,-,D1,R5⟩:=Sli.at_ (B2.mono (((J1.trans J2).trans J3).trans J4)) S1
     obtain rfl:cP=[S X1]:=D1
     refine Y2 (v:=Pa (C1.add (K1.toNat*1))) f (λ_ pq=>Y34 dS rfl (len:=d0.ae.length) (cap:=P2) (k:=.i64) (i:=K1) (e:=9) (sz:=1) (aF S1) (aE S1)) λ_ f=>Y4 f R5 0 rfl λ_ f=>Y5 default f 1 λ_ f=>Y4 f (fzu (J3.trans J4) R4) 5 rfl λ_ f=>Y5 default f 1 λ_ f=>?_
     obtain⟨X2,S2,F17⟩:=bS F16
     obtain⟨C2,jX,lp,-,D2,R6⟩:=Sli.at_ (B4.mono (((J1.trans J2).trans J3).trans J4)) S2
     obtain rfl:jX=[S X2]:=D2
     refine Y2 (v:=Pa (C2.add (K1.toNat*1))) f (λ_ pq=>Y34 lp rfl (len:=d1.ae.length) (cap:=P4) (k:=.i64) (i:=K1) (e:=9) (sz:=1) (aF S2) (aE S2)) λ_ f=>Y4 f R6 0 rfl λ_ f=>Y2 (v:=bO (!(decide (X1=X2)))) f (λ_ pq=>Y43 rfl (l:=X1) (m:=X2)) λ_ f=>bW rfl ?_
     intro W5 N5
     refine aH (RcF f F17 (λB12 F18=>?_) λB12 F19=>?_)
     ·have U14: ¬ (X1=X2):=(av dI).1 B12
      refine RR (Ye f 1 λ_ f=>wp_ret (bV (aS (aS ?_))))
      cases sI F18
      exact .inl ⟨rfl,(),(sI T1).symm,V4,J4,f.kp,N5⟩
     ·have U15: ¬ (¬ (X1=X2)):=ap (av dI) B12
      refine wp_skip (cG (aH (aI (Y f 1 λ_ f=>?_))))
      obtain⟨O1,F20⟩:=nS F19
      refine Y f 1 λ_ f=>?_
      have f:=f.st 57 (iW O1)
      refine Ye f 1 λ_ f=>?_
      cases sI F20
      exact⟨⟨I2,K1+1⟩,Nat.lt_succ_self _,V4,J4,T1,f.kp,N5⟩
    ·have U16:=ap dI B11
     refine wp_exit (co (co ?_))
     cases sI F21
     exact .inr ⟨rfl,(),(sI T1).symm,V4,J4,f.kp,N4⟩
   ·rintro _ _ W8 (⟨rfl,G2,rfl,V5,J5,f,N6⟩|⟨rfl,G3,rfl,V6,J6,f,N7⟩)
    ·refine bV (aS (ao f rfl (Lk 4 (bO false)) ?_))
     cases sI F14
     exact⟨_,rfl,V5,(((J1.trans J2).trans J3).trans J5),N6,rfl⟩
    ·refine iq (aH (ag (RR (Ye f 1 λ_ f=>wp_block ?_))))
     obtain⟨Q4,sf,F22⟩:=bS F14
     refine wp_mono (Q:=λe a w=>(e=.ret∧(∃G4:Unit,Q4=.inl G4∧∃V8:Mem,V6.le V8∧Frm 88 [(4,bO false)] a∧Hp w0 V8 (H) w))∨(e=.exit 2∧(∃G5:Unit,Q4=.inr G5∧∃V9:Mem,V6.le V9∧Frm 88 [] a∧Hp w0 V9 (H) w))) (bu (n:=88) (w0:=w0) (M:=V6) (λ (I3,K2)=>[(2,pP Q1),(3,pP Q2),(6,iL K2)]) (λ (I3,K2)=>(H)) (λ (I3,K2) MM=>aN (cN n rec_ref03_Same d0 d1) I3 K2=some Q4) (λ (I3,K2)=>I3) (n,(0:Int)) (f.kp) N7 sf ?_) ?_
     ·rintro⟨I3,K2⟩ V7 _ W9 J7 I_2 f N8
      have sg:=I_2
      obtain⟨I4,r_2,rfl,nj,T2⟩:=aT sg
      unfold cN at nj
      refine ag (RR (Y f 2 λ_ f=>Y15 f N8 (fzu (((J2.trans J3).trans J6).trans J7) R2) 4 rfl λ_ f=>Ye f 2 λ_ f=>RcF f nj (λB13 F23=>?_) λB13 F30=>?_))
      ·have U17:=dI.1 B13
       refine St (ag (wp_block (ag (cR N8 kr kr (Y5 default f 1 λ_ f=>Y4 f (fzu (((J2.trans J3).trans J6).trans J7) R2) 4 rfl λ_ f=>Y5 default f 1 λ_ f=>?_)))))
       obtain⟨X3,S3,F24⟩:=bS F23
       obtain⟨C3,c_3,sh,-,D3,R7⟩:=Sli.at_ (B1.mono ((((J1.trans J2).trans J3).trans J6).trans J7)) S3
       obtain⟨Z5,P5,Z6,P6,rfl,B14,B15⟩:=TF0.opn D3
       refine Y2 (v:=Pa (C3.add (K2.toNat*6))) f (λ_ pq=>Y34 sh rfl (len:=d0.ac.length) (cap:=P1) (k:=.i64) (i:=K2) (e:=73) (sz:=6) (aF S3) (aE S3)) λ_ f=>Y2 f (λ_ pq=>Y36 (cs:=(lTF0 X3 Z5 P5 Z6 P6)) rfl (ad:=C3.add (K2.toNat*6)) (λj v h=>pq.cell (R7 j v h))) λ_ f=>Y5 default f 1 λ_ f=>Y4 f (fzu ((J3.trans J6).trans J7) R4) 4 rfl λ_ f=>Y5 default f 1 λ_ f=>?_
       obtain⟨X4,S4,F25⟩:=bS F24
       obtain⟨C4,c_4,qG,-,D4,R8⟩:=Sli.at_ (B3.mono ((((J1.trans J2).trans J3).trans J6).trans J7)) S4
       obtain⟨Z7,P7,Z8,P8,rfl,B16,B17⟩:=TF0.opn D4
       refine Y2 (v:=Pa (C4.add (K2.toNat*6))) f (λ_ pq=>Y34 qG rfl (len:=d1.ac.length) (cap:=P3) (k:=.i64) (i:=K2) (e:=73) (sz:=6) (aF S4) (aE S4)) λ_ f=>Y2 f (λ_ pq=>Y36 (cs:=(lTF0 X4 Z7 P7 Z8 P8)) rfl (ad:=C4.add (K2.toNat*6)) (λj v h=>pq.cell (R8 j v h))) λ_ f=>?_
       obtain⟨X5,S5,F26⟩:=bS F25
       refine Y3 f (hrec_ref03_Same _ _ X3 (TF0.shutx (x:=X3) B14 B15) _ X4 (TF0.shutx (x:=X4) B16 B17) X5 S5) λ_ f=>Y5 default f 1 λ_ f=>bW rfl ?_
       intro W11 N10
       refine aH (RcF f F26 (λB18 F27=>?_) λB18 F28=>?_)
       ·have U18: (X5)=false:=by simpa using B18
        refine RR (Ye f 1 λ_ f=>wp_ret (bV (aS (aS ?_))))
        cases sI F27
        exact .inl ⟨rfl,(),(sI T2).symm,V7,J7,f.kp,N10⟩
       ·have U19: (X5)=true:=by simpa using B18
        refine wp_skip (cG (aH (aI (Y f 1 λ_ f=>?_))))
        obtain⟨O2,F29⟩:=nS F28
        refine Y f 1 λ_ f=>?_
        have f:=f.st 75 (iW O2)
        refine Ye f 1 λ_ f=>?_
        cases sI F29
        exact⟨⟨I4,K2+1⟩,Nat.lt_succ_self _,V7,J7,T2,f.kp,N10⟩
      ·have U20:=ap dI B13
       refine wp_exit (co (co ?_))
       cases sI F30
       exact .inr ⟨rfl,(),(sI T2).symm,V7,J7,f.kp,N8⟩
     ·rintro _ _ W14 (⟨rfl,G4,rfl,V8,J8,f,N11⟩|⟨rfl,G5,rfl,V9,J9,f,N12⟩)
      ·refine bV (aS (ao f rfl (Lk 4 (bO false)) ?_))
       cases sI F22
       exact⟨_,rfl,V8,((((J1.trans J2).trans J3).trans J6).trans J8),N11,rfl⟩
      ·refine iq (aH (RR (Ye f 1 λ_ f=>wp_ret (ao f rfl (Lk 4 (bO true)) ?_))))
       cases sI F22
       exact⟨_,rfl,V9,((((J1.trans J2).trans J3).trans J6).trans J9),N12,rfl⟩
def cy (n:Nat):Nat→TF0→TF0→Option Bool
 |0=>λ_ _=>none
 |k+1=>eS n (cy n k)
def kz (n:Nat) (d0:TF0) (d1:TF0):Option Bool:=cy n n d0 d1
theorem nO (n:Nat) (M:Mem) (c0:Lv) (d0:TF0) (h0:Rep M (ay d0) c0) (c1:Lv) (d1:TF0) (h1:Rep M (ay d1) c1) (r:Bool) (hF:kz n d0 d1=some r):Ok Tryz.prog M 54 [.agg c0.toArray,.agg c1.toArray] (λ_ v=>v=bO r):=by
 have key: ∀ (k:Nat) (M:Mem) (c0:Lv) (d0:TF0) (h0:Rep M (ay d0) c0) (c1:Lv) (d1:TF0) (h1:Rep M (ay d1) c1) (r:Bool) (hF:cy n k d0 d1=some r),Ok Tryz.prog M 54 [.agg c0.toArray,.agg c1.toArray] (λ_ v=>v=bO r):=by
  intro k
  induction k with
  |zero=>intro M c0 d0 h0 c1 d1 h1 r hF;simp[cy] at hF
  |succ k ih=>intro M c0 d0 h0 c1 d1 h1 r hF;exact qq n (cy n k) ih M c0 d0 h0 c1 d1 h1 r hF
 exact key n M c0 d0 h0 c1 d1 h1 r hF
end Go.Proofs.YtkhdpnamfndonaaGreatDoor
end
section
namespace Go.Proofs
open Go.Shelf
def Tryz.lays106_ren:Go.Shelf.Ren:=⟨λ |106=>127|213=>132|265=>135|n=>n,λ |9=>9|3=>3|n=>n,λ |n=>n⟩
theorem Tryz.lays106:Go.Proofs.Lays.n106 Tryz.prog Tryz.lays106_ren:={
 mixed:=by kernel_rfl
 f106:=Tryz.func127.trans (congrArg some kr)
 f213:=Tryz.func132.trans (congrArg some kr)
 f265:=Tryz.func135.trans (congrArg some kr)
 t3:=Tryz.underlying3
 a3:=Tryz.isAgg3
 z3:=Tryz.sizeOf3
 v3:=Tryz.zeroValue3
 t9:=Tryz.underlying9
 a9:=Tryz.isAgg9
 z9:=Tryz.sizeOf9
 v9:=Tryz.zeroValue9}
open Go.RowKit in
theorem Tryz.strings_Compare (a b:ByteArray) (w:World):
 Calls Tryz.prog 127 #[.string a,.string b] w λe w'=>e=.returned (.int .i64 (Lib.compareBytes a.data.toList b.data.toList))∧w'=w:=Any.strings_Compare Tryz.lays106 a b w
end Go.Proofs
end
section
namespace Go.Proofs
open Go Go.Shelf
def Tryz.lays196_ren:Go.Shelf.Ren:=⟨λ |196=>113|259=>120|n=>n,λ |46=>170|53=>177|119=>166|138=>168|139=>169|n=>n,λ |3=>0|4=>1|n=>n⟩
theorem Tryz.lays196:Go.Proofs.Lays.n196 Tryz.prog Tryz.lays196_ren:={
 mixed:=by kernel_rfl
 f196:=Tryz.func113.trans (congrArg some kr)
 f259:=Tryz.func120.trans (congrArg some kr)
 t0:=Tryz.underlying0
 a0:=Tryz.isAgg0
 z0:=Tryz.sizeOf0
 v0:=Tryz.zeroValue0
 t3:=Tryz.underlying3
 a3:=Tryz.isAgg3
 z3:=Tryz.sizeOf3
 v3:=Tryz.zeroValue3
 t4:=Tryz.underlying4
 a4:=Tryz.isAgg4
 z4:=Tryz.sizeOf4
 v4:=Tryz.zeroValue4
 t5:=Tryz.underlying5
 a5:=Tryz.isAgg5
 z5:=Tryz.sizeOf5
 v5:=Tryz.zeroValue5
 t9:=Tryz.underlying9
 a9:=Tryz.isAgg9
 z9:=Tryz.sizeOf9
 v9:=Tryz.zeroValue9
 t12:=Tryz.underlying12
 a12:=Tryz.isAgg12
 z12:=Tryz.sizeOf12
 v12:=Tryz.zeroValue12
 t46:=Tryz.underlying170
 a46:=Tryz.isAgg170
 z46:=Tryz.sizeOf170
 v46:=Tryz.zeroValue170
 t53:=Tryz.underlying177
 a53:=Tryz.isAgg177
 z53:=Tryz.sizeOf177
 v53:=Tryz.zeroValue177
 t119:=Tryz.underlying166
 a119:=Tryz.isAgg166
 z119:=Tryz.sizeOf166
 t138:=Tryz.underlying168
 a138:=Tryz.isAgg168
 z138:=Tryz.sizeOf168
 v138:=Tryz.zeroValue168
 t139:=Tryz.underlying169
 a139:=Tryz.isAgg169
 z139:=Tryz.sizeOf169
 v139:=Tryz.zeroValue169
 g3:=by kernel_rfl
 g4:=by kernel_rfl}
end Go.Proofs
end
section
namespace Go.Proofs.YtkhdpnamfndonaaGreatDoor
open Go Go.Vc Go.RowKit
def GL (M:Mem):Prop:=Tabs 0 1 M∧IntVar 2 M
theorem GL.mono {M M':Mem} (hM:M.le M') (h:GL M):GL M':=⟨h.1.mono hM,h.2.mono hM⟩
def jo (_:Nat) (d0:Bs):Option Bool:=aZ ((d0.length:Int)≤9223372036854775807) (some (Lib.validD d0))
theorem pw (n:Nat) (M:Mem) (hG:GL M) (d0:Bs) (r:Bool) (hF:jo n d0=some r):Ok Tryz.prog M 113 [S d0] (λ_ v=>v=bO r):=by
 unfold jo at hF
 obtain⟨g,hF⟩:=jf hF
 obtain rfl:=Option.some.inj hF
 refine Ok.ofBelow λM2 w0 H w hM hp=>?_
 exact Any.utf8_ValidString Tryz.lays196 (mkS d0) w (by have: (mkS d0).size=d0.length:=rfl;omega) ((hG.1.mono hM).at hp)
def iJ (_:Nat) (d0 d1:Bs):Option Int:=some (Lib.compareBytes d0 d1)
theorem kc (n:Nat) (M:Mem) (d0 d1:Bs) (r:Int) (hF:iJ n d0 d1=some r):Ok Tryz.prog M 127 [S d0,S d1] (λ_ v=>v=iL r):=by
 obtain rfl:=Option.some.inj hF
 exact Ok.ofPure λw=>Tryz.strings_Compare (mkS d0) (mkS d1) w
theorem nt: ∀a:Bs,Lib.compareBytes a a=0
 |[]=>rfl
 |x::r=>by simp[Lib.compareBytes,nt r]
theorem rd: ∀a b:Bs,Lib.compareBytes a b=0→a=b
 |[],[],_=>rfl
 |[],_::_,h=>by simp[Lib.compareBytes] at h
 |_::_,[],h=>by simp[Lib.compareBytes] at h
 |x::r,y::s,h=>by
  unfold Lib.compareBytes at h
  by_cases h1:x<y
  ·simp[h1] at h
  ·by_cases h2:y<x
   ·simp[h1,h2] at h
   ·simp only[h1,h2,if_false] at h
    have hxy:x=y:=UInt8.toNat_inj.1 (by rw[UInt8.lt_iff_toNat_lt] at h1 h2;omega)
    rw[hxy,rd r s h]
theorem iu: ∀a b:Bs,Lib.compareBytes b a= -Lib.compareBytes a b
 |[],[]=>rfl
 |[],_::_=>rfl
 |_::_,[]=>rfl
 |x::r,y::s=>by
  unfold Lib.compareBytes
  by_cases h1:x<y
  ·have h2: ¬y<x:=by rw[UInt8.lt_iff_toNat_lt] at h1 ⊢;omega
   simp[h1,h2]
  ·by_cases h2:y<x
   ·simp[h1,h2]
   ·simp[h1,h2,iu r s]
theorem lz: ∀a b c:Bs,Lib.compareBytes a b≤0→Lib.compareBytes b c≤0→Lib.compareBytes a c≤0∧(Lib.compareBytes a b<0∨Lib.compareBytes b c<0→Lib.compareBytes a c<0)
 |[],[],c,h1,h2=>⟨h2,λh=>h.elim (λh=>absurd h (by simp[Lib.compareBytes])) id⟩
 |[],_::_,[],h1,h2=>absurd h2 (by simp[Lib.compareBytes])
 |[],_::_,_::_,h1,h2=>by simp[Lib.compareBytes]
 |_::_,[],_,h1,h2=>absurd h1 (by simp[Lib.compareBytes])
 |_::_,_::_,[],h1,h2=>absurd h2 (by simp[Lib.compareBytes])
 |x::r,y::s,z::t,h1,h2=>by
  have ih:=lz r s t
  unfold Lib.compareBytes at h1 h2 ⊢
  by_cases a1:x<y
  ·by_cases b1:y<z
   ·have:x<z:=by rw[UInt8.lt_iff_toNat_lt] at*;omega
    simp[this]
   ·by_cases b2:z<y
    ·simp[b1,b2] at h2
    ·have:x<z:=by rw[UInt8.lt_iff_toNat_lt] at*;omega
     simp[this]
  ·by_cases a2:y<x
   ·simp[a1,a2] at h1
   ·have hxy:x=y:=UInt8.toNat_inj.1 (by rw[UInt8.lt_iff_toNat_lt] at a1 a2;omega)
    subst hxy
    by_cases b1:x<z
    ·simp[b1]
    ·by_cases b2:z<x
     ·simp[b1,b2] at h2
     ·simp only[a1,b1,b2,if_false] at h1 h2 ⊢
      exact ih h1 h2
theorem repInts {M:Mem} {k:IntKind}: ∀ {d:List Int} {cs:Lv},aa M (d.map (Dat.int k)) cs→cs=d.map (Value.int k)
 |[],cs,h=>h
 |x::r,cs,h=>by
  obtain⟨c1,c2,rfl,h1,h2⟩:=h
  have h1':c1=[.int k x]:=h1
  rw[h1',repInts h2]
  rfl
theorem intsRep {M:Mem} {k:IntKind}: ∀d:List Int,aa M (d.map (Dat.int k)) (d.map (Value.int k))
 |[]=>rfl
 |x::r=>⟨[.int k x],r.map (Value.int k),rfl,rfl,intsRep r⟩
section
variable {P:Program} {ops:Array Oper} {K:Act→Prop} {C:World→Prop} {L:Fr} {n:Nat} {dd:List Deferred} {a:Act}
theorem Q_pure {o:Oper} {rest:List Oper} {d:Nat} {f:FuncId} {args:Lv} {v:Value} (hf:Frm n L a dd) (hw:bb ops L o=some true) (hr:bq L o=true)
 (hd:o.dst=some d) (hdn:Nat.blt d n=true) (hx: ∀w,(execOp (ev L) o).run P w=.ok (.enter f args.toArray) w) (hc: ∀w,Calls P f args.toArray w λe w'=>e=.returned v∧w'=w)
 (hk: ∀a',Frm n ((d,v)::L) a' dd→wpQuiet P ops C K rest a'):wpQuiet P ops C K (o::rest) a:=by
 simp only[wpQuiet]
 rw[hf.wanted hw,if_pos rfl]
 refine⟨v,λw hC=>?_,?_⟩
 ·unfold Oper.quietAt
  rw[hf.exec hr,hx w]
  exact⟨rfl,(hc w).mono λe w' ⟨he,hw'⟩=>⟨he,hw'▸hC⟩⟩
 ·rw[hd];exact hk _ (hf.put (by simpa [Nat.blt_eq] using hdn) v)
end
set_option maxRecDepth 100000 in
theorem order1_calls {w0:World} {M:Mem} {H:List Ent} {W:World} (hp:Hp w0 M H W) {bA ad0:Addr} {v:TF0} {c0:Lv} (h0:Rep M (ay v) c0) (q0: ∀j u,c0[j]? =some u→M.cell? (ad0.add j)=some u)
 (hb:M.cell? bA=some (Pa ad0)) (x y:Int) (kx ky:Bs) (hx:aR v.ae x=some kx) (hy:aR v.ae y=some ky):
 Calls Tryz.prog 129 [iL x,iL y,Pa bA].toArray W λe w'=>e=.returned (iL (Lib.compareBytes kx ky))∧∃q,w'=W.drewN q:=by
 obtain⟨A_1,nk,A_2,mo,rfl,h_1,h_2⟩:=TF0.opn h0
 refine Re 21 Tryz.func129 rfl (λa0 f0=>?_)
 replace f0:Frm 21 [(0,iL x),(1,iL y),(2,Pa bA)] a0:=f0
 refine ag ?_
 refine aI ?_
 refine iP (L':=[(0,iL x),(1,iL y),(2,Pa bA),(5,iL 0)]) (w':=W) f0 1 [0,1,2,5] kr (λa_1 f_1=>?_)
 refine aA rfl ?_
 refine aH ?_
 refine ag ?_
 refine wp_region_quiet (C:=λw'=>∃n,w'=W.drewN n) kr kr ⟨1,rfl⟩ ?_
 refine mp (v:=Pa ad0) f_1 kr kr rfl rfl (λ_ pq=>by obtain⟨n,rfl⟩:=pq;exact gz (v:=Pa ad0) rfl (ad:=bA) kr kr ((hp.drewN n).cell hb)) (λa_2 f_2=>?_)
 refine mp (v:=Pa ad0) f_2 kr kr rfl rfl (λ_ _=>by kernel_rfl) (λa_3 f_3=>?_)
 refine mp (v:=Pa (ad0.add 5)) f_3 kr kr rfl rfl (λ_ _=>by kernel_rfl) (λa_4 f_4=>?_)
 refine mp (v:=sL A_2 v.ae mo) f_4 kr kr rfl rfl (λ_ pq=>by obtain⟨n,rfl⟩:=pq;exact gz (v:=sL A_2 v.ae mo) rfl (ad:=ad0.add 5) kr kr ((hp.drewN n).cell (q0 5 _ rfl))) (λa_5 f_5=>?_)
 refine mp (v:=iL x) f_5 kr kr rfl rfl (λ_ _=>by kernel_rfl) (λa_6 f_6=>?_)
 obtain⟨ad_1,cP,dS,hl_1,hr_1,hc_1⟩:=Sli.at_ h_2 hx
 obtain rfl:cP=[S kx]:=hr_1
 refine mp (v:=Pa (ad_1.add (x.toNat*1))) f_6 kr kr rfl rfl (λ_ pq=>jZ dS rfl (len:=v.ae.length) (cap:=mo) (k:=.i64) (i:=x) kr kr (e:=9) kr (sz:=1) kr (aF hx) (aE hx)) (λa_7 f_7=>?_)
 refine mp (v:=S kx) f_7 kr kr rfl rfl (λ_ pq=>by obtain⟨n,rfl⟩:=pq;exact gz (v:=S kx) rfl (ad:=ad_1.add (x.toNat*1)) kr kr ((hp.drewN n).cell (hc_1 0 _ rfl))) (λa_8 f_8=>?_)
 refine mp (v:=Pa ad0) f_8 kr kr rfl rfl (λ_ pq=>by obtain⟨n,rfl⟩:=pq;exact gz (v:=Pa ad0) rfl (ad:=bA) kr kr ((hp.drewN n).cell hb)) (λa_9 f_9=>?_)
 refine mp (v:=Pa ad0) f_9 kr kr rfl rfl (λ_ _=>by kernel_rfl) (λqa f_10=>?_)
 refine mp (v:=Pa (ad0.add 5)) f_10 kr kr rfl rfl (λ_ _=>by kernel_rfl) (λpm f_11=>?_)
 refine mp (v:=sL A_2 v.ae mo) f_11 kr kr rfl rfl (λ_ pq=>by obtain⟨n,rfl⟩:=pq;exact gz (v:=sL A_2 v.ae mo) rfl (ad:=ad0.add 5) kr kr ((hp.drewN n).cell (q0 5 _ rfl))) (λa_12 f_12=>?_)
 refine mp (v:=iL y) f_12 kr kr rfl rfl (λ_ _=>by kernel_rfl) (λa_13 f_13=>?_)
 obtain⟨ad_2,jX,lp,hl_2,hr_2,hc_2⟩:=Sli.at_ h_2 hy
 obtain rfl:jX=[S ky]:=hr_2
 refine mp (v:=Pa (ad_2.add (y.toNat*1))) f_13 kr kr rfl rfl (λ_ pq=>jZ lp rfl (len:=v.ae.length) (cap:=mo) (k:=.i64) (i:=y) kr kr (e:=9) kr (sz:=1) kr (aF hy) (aE hy)) (λa_14 f_14=>?_)
 refine mp (v:=S ky) f_14 kr kr rfl rfl (λ_ pq=>by obtain⟨n,rfl⟩:=pq;exact gz (v:=S ky) rfl (ad:=ad_2.add (y.toNat*1)) kr kr ((hp.drewN n).cell (hc_2 0 _ rfl))) (λa_15 f_15=>?_)
 refine Q_pure (v:=iL (Lib.compareBytes kx ky)) (args:=[S kx,S ky]) f_15 kr kr rfl rfl (λ_=>by kernel_rfl) (λw=>Tryz.strings_Compare (mkS kx) (mkS ky) w) (λa_16 f_16=>?_)
 refine mp (v:=iL (Lib.compareBytes kx ky)) f_16 kr kr rfl rfl (λ_ _=>by kernel_rfl) (λa_17 f_17=>?_)
 refine bW rfl ?_
 rintro w' ⟨q,rfl⟩
 refine aH ?_
 refine wp_ret ?_
 refine ao f_17 rfl (Lk 5 (iL (Lib.compareBytes kx ky))) ?_
 exact⟨rfl,q,rfl⟩
def ei (n:Nat) (rec_ref03_Count:TF0→Option Int) (d0:TF0) (K1:Int×Int):Option (Lp (Int×Int) Int):=
    bif(decide (K1.2<((d0.ac.length:Nat):Int))) then
     ((aR d0.ac K1.2).bind λX1=>
     (rec_ref03_Count X1).bind λX2=>
     aZ (inR .i64 (K1.1+X2))<|
     aZ (inR .i64 (K1.2+1))<|
     some (.nx (K1.1+X2,K1.2+1)))
    else
     some (.br K1.1)
def ik (n:Nat) (rec_ref03_Count:TF0→Option Int) (d0:TF0):Option Int:=
 (aN (ei n rec_ref03_Count d0) n ((1:Int),(0:Int))).bind λG1=>
 some (G1)
theorem px (n:Nat) (rec_ref03_Count:TF0→Option Int) (hrec_ref03_Count: ∀ (M:Mem) (c0:Lv) (d0:TF0) (h0:Rep M (ay d0) c0) (r:Int) (hF:rec_ref03_Count d0=some r),Ok Tryz.prog M 96 [.agg c0.toArray] (λ_ v=>v=iL r)) (M:Mem) (c0:Lv) (d0:TF0) (h0:Rep M (ay d0) c0) (r:Int) (hF:ik n rec_ref03_Count d0=some r):Ok Tryz.prog M 96 [.agg c0.toArray] (λ_ v=>v=iL r):=by
 unfold ik at hF
 intro M1 hM0 w0 H w p0
 replace h0:=Rep.mono hM0 _ _ h0
 obtain⟨Z1,P1,Z2,P2,rfl,B1,B2⟩:=TF0.opn h0
 refine Re 21 Tryz.func96 rfl λa0 f0=>RR (Y13 (cs:=(aTF0 d0 Z1 P1 Z2 P2)) (T:=73) f0 p0 λQ1 V1 W1 J1 R1 N1 _ f=>?_)
 have R2:=bR R1
 refine Ye f 1 λ_ f=>RR (Ye f 1 λ_ f=>ag (RR (Ye f 1 λ_ f=>wp_block ?_)))
 obtain⟨Q2,bH,F1⟩:=bS hF
 refine wp_mono (Q:=λe a w=>(e=.exit 0∧(∃G1:Int,Q2=G1∧∃V3:Mem,V1.le V3∧Frm 21 [(3,iL G1)] a∧Hp w0 V3 (H) w))) (bu (n:=21) (w0:=w0) (M:=V1) (λ (I1,K1)=>[(1,pP Q1),(3,iL K1.1),(4,iL K1.2)]) (λ (I1,K1)=>(H)) (λ (I1,K1) MM=>aN (ei n rec_ref03_Count d0) I1 K1=some Q2) (λ (I1,K1)=>I1) (n,((1:Int),(0:Int))) (f.kp) N1 bH ?_) ?_
 ·rintro⟨I1,K1⟩ V2 _ W2 J2 dc f N2
  have bI:=dc
  obtain⟨I2,jP,rfl,be,T1⟩:=aT bI
  unfold ei at be
  refine ag (RR (Y f 2 λ_ f=>Y15 f N2 (fzu J2 R2) 4 rfl λ_ f=>Ye f 2 λ_ f=>RcF f be (λB3 F2=>?_) λB3 F7=>?_))
  ·have U1:=dI.1 B3
   refine St (ag (wp_block (aI (Y f 2 λ_ f=>Y15 f N2 (fzu J2 R2) 4 rfl λ_ f=>Y f 1 λ_ f=>?_))))
   obtain⟨X1,S1,F3⟩:=bS F2
   obtain⟨C1,cP,dS,-,D1,R3⟩:=Sli.at_ (B1.mono (J1.trans J2)) S1
   obtain⟨Z3,P3,Z4,P4,rfl,B4,B5⟩:=TF0.opn D1
   refine Z f (Y34 dS rfl (len:=d0.ac.length) (cap:=P1) (k:=.i64) (i:=K1.2) (e:=73) (sz:=6) (aF S1) (aE S1)) λ_ f=>Z f (Y36 (cs:=(lTF0 X1 Z3 P3 Z4 P4)) rfl (ad:=C1.add (K1.2.toNat*6)) (λj v h=>N2.cell (R3 j v h))) λ_ f=>?_
   obtain⟨X2,S2,F4⟩:=bS F3
   refine Y18 f N2 (hrec_ref03_Count _ _ X1 (TF0.shutx (x:=X1) B4 B5) X2 S2) λW3 N3 _ f=>?_
   obtain⟨O1,F5⟩:=nS F4
   refine Y f 1 λ_ f=>?_
   have f:=f.st 19 (iW O1)
   refine Y f 1 λ_ f=>aA rfl (cG (aH (aI (Y f 1 λ_ f=>?_))))
   obtain⟨O2,F6⟩:=nS F5
   refine Y f 1 λ_ f=>?_
   have f:=f.st 11 (iW O2)
   refine Ye f 1 λ_ f=>?_
   cases sI F6
   exact⟨⟨I2,(K1.1+X2,K1.2+1)⟩,Nat.lt_succ_self _,V2,J2,T1,f.kp,N3⟩
  ·have U2:=ap dI B3
   refine wp_exit (co (co ?_))
   cases sI F7
   exact⟨rfl,K1.1,(sI T1).symm,V2,J2,f.kp,N2⟩
 ·rintro _ _ W5 ⟨rfl,G1,hq_,V3,J3,f,N4⟩
  subst Q2
  refine iq (aH (RR (Ye f 2 λ_ f=>wp_ret (ao f rfl (Lk 2 (iL G1)) ?_))))
  cases sI F1
  exact⟨_,rfl,V3,(J1.trans J3),N4,rfl⟩
def dh (n:Nat):Nat→TF0→Option Int
 |0=>λ_=>none
 |k+1=>ik n (dh n k)
def mD (n:Nat) (d0:TF0):Option Int:=dh n n d0
theorem re (n:Nat) (M:Mem) (c0:Lv) (d0:TF0) (h0:Rep M (ay d0) c0) (r:Int) (hF:mD n d0=some r):Ok Tryz.prog M 96 [.agg c0.toArray] (λ_ v=>v=iL r):=by
 have key: ∀ (k:Nat) (M:Mem) (c0:Lv) (d0:TF0) (h0:Rep M (ay d0) c0) (r:Int) (hF:dh n k d0=some r),Ok Tryz.prog M 96 [.agg c0.toArray] (λ_ v=>v=iL r):=by
  intro k
  induction k with
  |zero=>intro M c0 d0 h0 r hF;simp[dh] at hF
  |succ k ih=>intro M c0 d0 h0 r hF;exact px n (dh n k) ih M c0 d0 h0 r hF
 exact key n M c0 d0 h0 r hF
def dD (n:Nat) (rec_ref03_deeper:TF0→Int→Option Bool) (d0:TF0) (d1:Int) (K1:Int):Option (Lp Int (Sum Unit Unit)):=
    bif(decide (K1<((d0.ac.length:Nat):Int))) then
     ((aR d0.ac K1).bind λX1=>
     aZ (inR .i64 (d1-1))<|
     (rec_ref03_deeper X1 (d1-1)).bind λX2=>
     bif X2 then
      (some (.br (.inl ())))
     else
      aZ (inR .i64 (K1+1))<|
      some (.nx (K1+1)))
    else
     some (.br (.inr ()))
def gI (n:Nat) (rec_ref03_deeper:TF0→Int→Option Bool) (d0:TF0) (d1:Int):Option Bool:=
 bif(decide (d1=0)) then
  (some ((true)))
 else
  (aN (dD n rec_ref03_deeper d0 d1) n (0:Int)).bind λQ2=>
  (match Q2 with
  |.inl G1=>some ((true))
  |.inr G2=>some ((false)))
set_option maxRecDepth 20000 in
theorem oP (n:Nat) (rec_ref03_deeper:TF0→Int→Option Bool) (hrec_ref03_deeper: ∀ (M:Mem) (c0:Lv) (d0:TF0) (h0:Rep M (ay d0) c0) (d1:Int) (r:Bool) (hF:rec_ref03_deeper d0 d1=some r),Ok Tryz.prog M 94 [.agg c0.toArray,iL d1] (λ_ v=>v=bO r)) (M:Mem) (c0:Lv) (d0:TF0) (h0:Rep M (ay d0) c0) (d1:Int) (r:Bool) (hF:gI n rec_ref03_deeper d0 d1=some r):Ok Tryz.prog M 94 [.agg c0.toArray,iL d1] (λ_ v=>v=bO r):=by
 unfold gI at hF
 intro M1 hM0 w0 H w p0
 replace h0:=Rep.mono hM0 _ _ h0
 obtain⟨Z1,P1,Z2,P2,rfl,B1,B2⟩:=TF0.opn h0
 refine Re 23 Tryz.func94 rfl λa0 f0=>RR (Y13 (cs:=(aTF0 d0 Z1 P1 Z2 P2)) (T:=73) f0 p0 λQ1 V1 W1 J1 R1 N1 _ f=>?_)
 have R2:=bR R1
 refine Ye f 1 λ_ f=>ag (RR (Ye f 2 λ_ f=>RcF f hF (λB3 F1=>?_) λB3 F2=>?_))
 ·have U1:=dI.1 B3
  refine RR (Ye f 1 λ_ f=>wp_ret (aS (ao f rfl (Lk 4 (bO true)) ?_)))
  cases sI F1
  exact⟨_,rfl,V1,J1,N1,rfl⟩
 ·have U2:=ap dI B3
  refine St (ag (RR (Ye f 1 λ_ f=>wp_block ?_)))
  obtain⟨Q2,bH,F3⟩:=bS F2
  refine wp_mono (Q:=λe a w=>(e=.ret∧(∃G1:Unit,Q2=.inl G1∧∃V3:Mem,V1.le V3∧Frm 23 [(4,bO true)] a∧Hp w0 V3 (H) w))∨(e=.exit 0∧(∃G2:Unit,Q2=.inr G2∧∃V4:Mem,V1.le V4∧Frm 23 [] a∧Hp w0 V4 (H) w))) (bu (n:=23) (w0:=w0) (M:=V1) (λ (I1,K1)=>[(1,iL d1),(2,pP Q1),(5,iL K1)]) (λ (I1,K1)=>(H)) (λ (I1,K1) MM=>aN (dD n rec_ref03_deeper d0 d1) I1 K1=some Q2) (λ (I1,K1)=>I1) (n,(0:Int)) (f.kp) N1 bH ?_) ?_
  ·rintro⟨I1,K1⟩ V2 _ W2 J2 dc f N2
   have bI:=dc
   obtain⟨I2,jP,rfl,be,T1⟩:=aT bI
   unfold dD at be
   refine ag (RR (Y f 2 λ_ f=>Y15 f N2 (fzu J2 R2) 4 rfl λ_ f=>Ye f 2 λ_ f=>RcF f be (λB4 F4=>?_) λB4 F11=>?_))
   ·have U3:=dI.1 B4
    refine St (ag (wp_block (RR (Y f 1 λ_ f=>Y15 f N2 (fzu J2 R2) 4 rfl λ_ f=>Y f 1 λ_ f=>?_))))
    obtain⟨X1,S1,F5⟩:=bS F4
    obtain⟨C1,cP,dS,-,D1,R3⟩:=Sli.at_ (B1.mono (J1.trans J2)) S1
    obtain⟨Z3,P3,Z4,P4,rfl,B5,B6⟩:=TF0.opn D1
    refine Z f (Y34 dS rfl (len:=d0.ac.length) (cap:=P1) (k:=.i64) (i:=K1) (e:=73) (sz:=6) (aF S1) (aE S1)) λ_ f=>Z f (Y36 (cs:=(lTF0 X1 Z3 P3 Z4 P4)) rfl (ad:=C1.add (K1.toNat*6)) (λj v h=>N2.cell (R3 j v h))) λ_ f=>Y f 1 λ_ f=>?_
    obtain⟨O1,F6⟩:=nS F5
    refine Y f 1 λ_ f=>?_
    have f:=f.st 21 (iW O1)
    obtain⟨X2,S2,F7⟩:=bS F6
    refine Y18 f N2 (hrec_ref03_deeper _ _ X1 (TF0.shutx (x:=X1) B5 B6) (d1-1) X2 S2) λW3 N3 _ f=>eT (RcF f F7 (λB7 F8=>?_) λB7 F9=>?_)
    ·refine RR (Ye f 1 λ_ f=>wp_ret (bV (aS (aS ?_))))
     cases sI F8
     exact .inl ⟨rfl,(),(sI T1).symm,V2,J2,f.kp,N3⟩
    ·refine wp_skip (cG (aH (aI (Y f 1 λ_ f=>?_))))
     obtain⟨O2,F10⟩:=nS F9
     refine Y f 1 λ_ f=>?_
     have f:=f.st 14 (iW O2)
     refine Ye f 1 λ_ f=>?_
     cases sI F10
     exact⟨⟨I2,K1+1⟩,Nat.lt_succ_self _,V2,J2,T1,f.kp,N3⟩
   ·have U6:=ap dI B4
    refine wp_exit (co (co ?_))
    cases sI F11
    exact .inr ⟨rfl,(),(sI T1).symm,V2,J2,f.kp,N2⟩
  ·rintro _ _ W6 (⟨rfl,G1,rfl,V3,J3,f,N4⟩|⟨rfl,G2,rfl,V4,J4,f,N5⟩)
   ·refine bV (aS (ao f rfl (Lk 4 (bO true)) ?_))
    cases sI F3
    exact⟨_,rfl,V3,(J1.trans J3),N4,rfl⟩
   ·refine iq (aH (RR (Ye f 1 λ_ f=>wp_ret (ao f rfl (Lk 4 (bO false)) ?_))))
    cases sI F3
    exact⟨_,rfl,V4,(J1.trans J4),N5,rfl⟩
def cU (n:Nat):Nat→TF0→Int→Option Bool
 |0=>λ_ _=>none
 |k+1=>gI n (cU n k)
def lS (n:Nat) (d0:TF0) (d1:Int):Option Bool:=cU n n d0 d1
theorem qr (n:Nat) (M:Mem) (c0:Lv) (d0:TF0) (h0:Rep M (ay d0) c0) (d1:Int) (r:Bool) (hF:lS n d0 d1=some r):Ok Tryz.prog M 94 [.agg c0.toArray,iL d1] (λ_ v=>v=bO r):=by
 have key: ∀ (k:Nat) (M:Mem) (c0:Lv) (d0:TF0) (h0:Rep M (ay d0) c0) (d1:Int) (r:Bool) (hF:cU n k d0 d1=some r),Ok Tryz.prog M 94 [.agg c0.toArray,iL d1] (λ_ v=>v=bO r):=by
  intro k
  induction k with
  |zero=>intro M c0 d0 h0 d1 r hF;simp[cU] at hF
  |succ k ih=>intro M c0 d0 h0 d1 r hF;exact oP n (cU n k) ih M c0 d0 h0 d1 r hF
 exact key n M c0 d0 h0 d1 r hF
def jy (n:Nat) (d0:TF0):Option Bool:=
 ((bif(decide (d0.ab<0)) then
  (some ((true)))
   else
    some ((decide ((5:Int)<d0.ab))):Option Bool)).bind λG1=>
 bif G1 then
  (some ((false)))
 else
  ((bif d0.ak then
   (bif(!(decide (d0.ab=1))) then
    (some ((true)))
   else
    bif(!(decide (d0.an=0))) then
     (bif(!(decide (d0.ab=2))) then
      (some ((true)))
     else
      bif(!(decide (d0.ah=[]))) then
       (some ((!(decide (d0.ab=3)))))
      else
       some ((false)))
    else
     bif(!(decide (d0.ah=[]))) then
      (some ((!(decide (d0.ab=3)))))
     else
      some ((false)))
    else
     bif(!(decide (d0.an=0))) then
      (bif(!(decide (d0.ab=2))) then
       (some ((true)))
      else
       bif(!(decide (d0.ah=[]))) then
        (some ((!(decide (d0.ab=3)))))
       else
        some ((false)))
     else
      bif(!(decide (d0.ah=[]))) then
       (some ((!(decide (d0.ab=3)))))
      else
       some ((false)):Option Bool)).bind λG2=>
  bif G2 then
   (some ((false)))
  else
   ((bif(decide ((0:Int)<((d0.ac.length:Nat):Int))) then
    (bif(!(decide (d0.ab=4))) then
     (some ((!(decide (d0.ab=5)))))
    else
     some ((false)))
     else
      some ((false)):Option Bool)).bind λG3=>
   bif G3 then
    (some ((false)))
   else
    bif(decide (d0.ab=5)) then
     (some ((decide (((d0.ae.length:Nat):Int)=((d0.ac.length:Nat):Int)))))
    else
     some ((decide (((d0.ae.length:Nat):Int)=0)))
set_option maxRecDepth 20000 in
theorem rf (n:Nat) (M:Mem) (c0:Lv) (d0:TF0) (h0:Rep M (ay d0) c0) (r:Bool) (hF:jy n d0=some r):Ok Tryz.prog M 108 [.agg c0.toArray] (λ_ v=>v=bO r):=by
 unfold jy at hF
 intro M1 hM0 w0 H w p0
 replace h0:=Rep.mono hM0 _ _ h0
 obtain⟨Z1,P1,Z2,P2,rfl,B1,B2⟩:=TF0.opn h0
 refine Re 66 Tryz.func108 rfl λa0 f0=>RR (Y13 (cs:=(aTF0 d0 Z1 P1 Z2 P2)) (T:=73) f0 p0 λQ1 V1 W1 J1 R1 N1 _ f=>?_)
 have R2:=bR R1
 refine Ye f 1 λ_ f=>ag (ag ?_)
 obtain⟨cX,bX,F1⟩:=bS hF
 refine bj (λqa W2=>∃G1:Bool,cX=G1∧∃V2:Mem,V1.le V2∧Frm 66 [(1,pP Q1),(10,bO G1)] qa∧Hp w0 V2 (H) W2) ?_ ?_
 ·refine aI (Y f 1 λ_ f=>Y15 f N1 R2 0 rfl λ_ f=>Y f 2 λ_ f=>?_)
  rcases cE bX with⟨B3,F2⟩|⟨B3,F3⟩
  ·have U1:=dI.1 B3
   have f:=f.st 6 (cB B3)
   refine Ye f 4 λ_ f=>?_
   exact⟨(true),(sI F2).symm,V1,(mR _),f.kp,N1⟩
  ·have U2:=ap dI B3
   have f:=f.st 6 (cB B3)
   refine Y f 1 λ_ f=>Y15 f N1 R2 0 rfl λ_ f=>Ye f 2 λ_ f=>?_
   exact⟨(decide ((5:Int)<d0.ab)),(sI F3).symm,V1,(mR _),f.kp,N1⟩
 ·rintro qa W2 ⟨G1,dg,V2,J2,f,N2⟩
  subst cX
  refine aH (RcF f F1 (λB4 F4=>?_) λB4 F5=>?_)
  ·refine RR (Ye f 1 λ_ f=>wp_ret (aS (ao f rfl (Lk 2 (bO false)) ?_)))
   cases sI F4
   exact⟨_,rfl,V2,(J1.trans J2),N2,rfl⟩
  ·refine St (ag (ag ?_))
   obtain⟨jd,eW,F6⟩:=bS F5
   refine bj (λa_65 W3=>∃G2:Bool,jd=G2∧∃V3:Mem,V2.le V3∧Frm 66 [(1,pP Q1),(37,bO G2)] a_65∧Hp w0 V3 (H) W3) ?_ ?_
   ·refine aI (Y f 1 λ_ f=>Y15 f N2 (fzu J2 R2) 1 rfl λ_ f=>Y f 1 λ_ f=>?_)
    rcases cE eW with⟨B5,F7⟩|⟨B5,F18⟩
    ·have f:=f.st 13 (cB B5)
     refine Y f 1 λ_ f=>Y15 f N2 (fzu J2 R2) 0 rfl λ_ f=>Y f 3 λ_ f=>?_
     rcases cE F7 with⟨B6,F8⟩|⟨B6,F9⟩
     ·have U6: ¬ (d0.ab=1):=(av dI).1 B6
      have f:=f.st 18 (cB B6)
      refine Ye f 19 λ_ f=>?_
      exact⟨(true),(sI F8).symm,V2,(mR _),f.kp,N2⟩
     ·have U7: ¬ (¬ (d0.ab=1)):=ap (av dI) B6
      have f:=f.st 18 (cB B6)
      refine Y f 1 λ_ f=>Y15 f N2 (fzu J2 R2) 2 rfl λ_ f=>Y f 2 λ_ f=>?_
      rcases cE F9 with⟨B7,F10⟩|⟨B7,F15⟩
      ·have U8: ¬ (d0.an=0):=(av dI).1 B7
       have f:=f.st 22 (cB B7)
       refine Y f 1 λ_ f=>Y15 f N2 (fzu J2 R2) 0 rfl λ_ f=>Y f 4 λ_ f=>?_
       rcases cE F10 with⟨B8,F11⟩|⟨B8,F12⟩
       ·have U9: ¬ (d0.ab=2):=(av dI).1 B8
        have f:=f.st 28 (cB B8)
        refine Ye f 9 λ_ f=>?_
        exact⟨(true),(sI F11).symm,V2,(mR _),f.kp,N2⟩
       ·have U10: ¬ (¬ (d0.ab=2)):=ap (av dI) B8
        have f:=f.st 28 (cB B8)
        refine Y f 1 λ_ f=>Y15 f N2 (fzu J2 R2) 3 rfl λ_ f=>Z f (Y43 rfl (l:=d0.ah) (m:=[])) λ_ f=>Y f 1 λ_ f=>?_
        rcases cE F12 with⟨B9,F13⟩|⟨B9,F14⟩
        ·have U11: ¬ (d0.ah=[]):=(av dI).1 B9
         have f:=f.st 32 (cB B9)
         refine Y f 1 λ_ f=>Y15 f N2 (fzu J2 R2) 0 rfl λ_ f=>Ye f 3 λ_ f=>?_
         exact⟨(!(decide (d0.ab=3))),(sI F13).symm,V2,(mR _),f.kp,N2⟩
        ·have U12: ¬ (¬ (d0.ah=[])):=ap (av dI) B9
         have f:=f.st 32 (cB B9)
         refine Ye f 5 λ_ f=>?_
         exact⟨(false),(sI F14).symm,V2,(mR _),f.kp,N2⟩
      ·have U13: ¬ (¬ (d0.an=0)):=ap (av dI) B7
       have f:=f.st 22 (cB B7)
       refine Y f 7 λ_ f=>Y15 f N2 (fzu J2 R2) 3 rfl λ_ f=>Z f (Y43 rfl (l:=d0.ah) (m:=[])) λ_ f=>Y f 1 λ_ f=>?_
       rcases cE F15 with⟨B10,F16⟩|⟨B10,F17⟩
       ·have U14: ¬ (d0.ah=[]):=(av dI).1 B10
        have f:=f.st 32 (cB B10)
        refine Y f 1 λ_ f=>Y15 f N2 (fzu J2 R2) 0 rfl λ_ f=>Ye f 3 λ_ f=>?_
        exact⟨(!(decide (d0.ab=3))),(sI F16).symm,V2,(mR _),f.kp,N2⟩
       ·have U15: ¬ (¬ (d0.ah=[])):=ap (av dI) B10
        have f:=f.st 32 (cB B10)
        refine Ye f 5 λ_ f=>?_
        exact⟨(false),(sI F17).symm,V2,(mR _),f.kp,N2⟩
    ·have f:=f.st 13 (cB B5)
     refine Y f 6 λ_ f=>Y15 f N2 (fzu J2 R2) 2 rfl λ_ f=>Y f 2 λ_ f=>?_
     rcases cE F18 with⟨B11,F19⟩|⟨B11,F24⟩
     ·have U17: ¬ (d0.an=0):=(av dI).1 B11
      have f:=f.st 22 (cB B11)
      refine Y f 1 λ_ f=>Y15 f N2 (fzu J2 R2) 0 rfl λ_ f=>Y f 4 λ_ f=>?_
      rcases cE F19 with⟨B12,F20⟩|⟨B12,F21⟩
      ·have U18: ¬ (d0.ab=2):=(av dI).1 B12
       have f:=f.st 28 (cB B12)
       refine Ye f 9 λ_ f=>?_
       exact⟨(true),(sI F20).symm,V2,(mR _),f.kp,N2⟩
      ·have U19: ¬ (¬ (d0.ab=2)):=ap (av dI) B12
       have f:=f.st 28 (cB B12)
       refine Y f 1 λ_ f=>Y15 f N2 (fzu J2 R2) 3 rfl λ_ f=>Z f (Y43 rfl (l:=d0.ah) (m:=[])) λ_ f=>Y f 1 λ_ f=>?_
       rcases cE F21 with⟨B13,F22⟩|⟨B13,F23⟩
       ·have U20: ¬ (d0.ah=[]):=(av dI).1 B13
        have f:=f.st 32 (cB B13)
        refine Y f 1 λ_ f=>Y15 f N2 (fzu J2 R2) 0 rfl λ_ f=>Ye f 3 λ_ f=>?_
        exact⟨(!(decide (d0.ab=3))),(sI F22).symm,V2,(mR _),f.kp,N2⟩
       ·have U21: ¬ (¬ (d0.ah=[])):=ap (av dI) B13
        have f:=f.st 32 (cB B13)
        refine Ye f 5 λ_ f=>?_
        exact⟨(false),(sI F23).symm,V2,(mR _),f.kp,N2⟩
     ·have U22: ¬ (¬ (d0.an=0)):=ap (av dI) B11
      have f:=f.st 22 (cB B11)
      refine Y f 7 λ_ f=>Y15 f N2 (fzu J2 R2) 3 rfl λ_ f=>Z f (Y43 rfl (l:=d0.ah) (m:=[])) λ_ f=>Y f 1 λ_ f=>?_
      rcases cE F24 with⟨B14,F25⟩|⟨B14,F26⟩
      ·have U23: ¬ (d0.ah=[]):=(av dI).1 B14
       have f:=f.st 32 (cB B14)
       refine Y f 1 λ_ f=>Y15 f N2 (fzu J2 R2) 0 rfl λ_ f=>Ye f 3 λ_ f=>?_
       exact⟨(!(decide (d0.ab=3))),(sI F25).symm,V2,(mR _),f.kp,N2⟩
      ·have U24: ¬ (¬ (d0.ah=[])):=ap (av dI) B14
       have f:=f.st 32 (cB B14)
       refine Ye f 5 λ_ f=>?_
       exact⟨(false),(sI F26).symm,V2,(mR _),f.kp,N2⟩
   ·rintro a_65 W3 ⟨G2,hZ,V3,J3,f,N3⟩
    subst jd
    refine aH (RcF f F6 (λB15 F27=>?_) λB15 F28=>?_)
    ·refine RR (Ye f 1 λ_ f=>wp_ret (aS (ao f rfl (Lk 2 (bO false)) ?_)))
     cases sI F27
     exact⟨_,rfl,V3,((J1.trans J2).trans J3),N3,rfl⟩
    ·refine St (ag (ag ?_))
     obtain⟨tt,pZ,F29⟩:=bS F28
     refine bj (λa_78 W4=>∃G3:Bool,tt=G3∧∃V4:Mem,V3.le V4∧Frm 66 [(1,pP Q1),(51,bO G3)] a_78∧Hp w0 V4 (H) W4) ?_ ?_
     ·refine aI (Y f 1 λ_ f=>Y15 f N3 (fzu (J2.trans J3) R2) 4 rfl λ_ f=>Y f 3 λ_ f=>?_)
      rcases cE pZ with⟨B16,F30⟩|⟨B16,F33⟩
      ·have U27:=dI.1 B16
       have f:=f.st 42 (cB B16)
       refine Y f 1 λ_ f=>Y15 f N3 (fzu (J2.trans J3) R2) 0 rfl λ_ f=>Y f 3 λ_ f=>?_
       rcases cE F30 with⟨B17,F31⟩|⟨B17,F32⟩
       ·have U28: ¬ (d0.ab=4):=(av dI).1 B17
        have f:=f.st 47 (cB B17)
        refine Y f 1 λ_ f=>Y15 f N3 (fzu (J2.trans J3) R2) 0 rfl λ_ f=>Ye f 2 λ_ f=>?_
        exact⟨(!(decide (d0.ab=5))),(sI F31).symm,V3,(mR _),f.kp,N3⟩
       ·have U29: ¬ (¬ (d0.ab=4)):=ap (av dI) B17
        have f:=f.st 47 (cB B17)
        refine Ye f 4 λ_ f=>?_
        exact⟨(false),(sI F32).symm,V3,(mR _),f.kp,N3⟩
      ·have U30:=ap dI B16
       have f:=f.st 42 (cB B16)
       refine Ye f 9 λ_ f=>?_
       exact⟨(false),(sI F33).symm,V3,(mR _),f.kp,N3⟩
     ·rintro a_78 W4 ⟨G3,sH,V4,J4,f,N4⟩
      subst tt
      refine aH (RcF f F29 (λB18 F34=>?_) λB18 F35=>?_)
      ·refine RR (Ye f 1 λ_ f=>wp_ret (aS (ao f rfl (Lk 2 (bO false)) ?_)))
       cases sI F34
       exact⟨_,rfl,V4,(((J1.trans J2).trans J3).trans J4),N4,rfl⟩
      ·refine St (ag (RR (Y f 1 λ_ f=>Y15 f N4 (fzu ((J2.trans J3).trans J4) R2) 0 rfl λ_ f=>Ye f 1 λ_ f=>RcF f F35 (λB19 F36=>?_) λB19 F37=>?_)))
       ·have U33:=dI.1 B19
        refine RR (Y f 1 λ_ f=>Y15 f N4 (fzu ((J2.trans J3).trans J4) R2) 5 rfl λ_ f=>Y f 2 λ_ f=>Y15 f N4 (fzu ((J2.trans J3).trans J4) R2) 4 rfl λ_ f=>Ye f 3 λ_ f=>wp_ret (aS (ao f rfl (Lk 2 (bO (decide (((d0.ae.length:Nat):Int)=((d0.ac.length:Nat):Int))))) ?_)))
        cases sI F36
        exact⟨_,rfl,V4,(((J1.trans J2).trans J3).trans J4),N4,rfl⟩
       ·have U34:=ap dI B19
        refine St (RR (Y f 1 λ_ f=>Y15 f N4 (fzu ((J2.trans J3).trans J4) R2) 5 rfl λ_ f=>Ye f 3 λ_ f=>wp_ret (ao f rfl (Lk 2 (bO (decide (((d0.ae.length:Nat):Int)=0)))) ?_)))
        cases sI F37
        exact⟨_,rfl,V4,(((J1.trans J2).trans J3).trans J4),N4,rfl⟩
def ej (n:Nat) (d0:TF0) (K1:Int):Option (Lp Int (Sum Unit Unit)):=
    bif(decide (K1<((d0.ae.length:Nat):Int))) then
     ((aR d0.ae K1).bind λX3=>
     (gG n X3).bind λX4=>
     bif !X4 then
      (some (.br (.inl ())))
     else
      aZ (inR .i64 (K1+1))<|
      some (.nx (K1+1)))
    else
     some (.br (.inr ()))
def en (n:Nat) (d0:TF0) (K2:Int) (K3:Int):Option (Lp Int (Sum Unit Unit)):=
    bif(decide (K3<K2)) then
     ((aR d0.ae K3).bind λX5=>
     (aR d0.ae K2).bind λX6=>
     bif(decide (X5=X6)) then
      (some (.br (.inl ())))
     else
      aZ (inR .i64 (K3+1))<|
      some (.nx (K3+1)))
    else
     some (.br (.inr ()))
def du (n:Nat) (d0:TF0) (K2:Int):Option (Lp Int (Sum Unit Unit)):=
    bif(decide (K2<((d0.ae.length:Nat):Int))) then
     ((aN (en n d0 K2) n (0:Int)).bind λQ4=>
     (match Q4 with
     |.inl G4=>some (.br (.inl ()))
     |.inr G5=>aZ (inR .i64 (K2+1))<|
      some (.nx (K2+1))))
    else
     some (.br (.inr ()))
def eo (n:Nat) (rec_ref03_wrong:TF0→Option Int) (d0:TF0) (K4:Int):Option (Lp Int (Sum Int Unit)):=
    bif(decide (K4<((d0.ac.length:Nat):Int))) then
     ((aR d0.ac K4).bind λX7=>
     (rec_ref03_wrong X7).bind λX8=>
     bif(!(decide (X8=0))) then
      (some (.br (.inl X8)))
     else
      aZ (inR .i64 (K4+1))<|
      some (.nx (K4+1)))
    else
     some (.br (.inr ()))
def il (n:Nat) (rec_ref03_wrong:TF0→Option Int) (d0:TF0):Option Int:=
 (jy n d0).bind λX1=>
 bif !X1 then
  (some ((2:Int)))
 else
  ((bif(decide (d0.an<(-9007199254740992))) then
   (some ((true)))
    else
     some ((decide ((9007199254740992:Int)<d0.an))):Option Bool)).bind λG1=>
  bif G1 then
   (some ((20:Int)))
  else
   (gG n d0.ah).bind λX2=>
   bif !X2 then
    (some ((10:Int)))
   else
    (aN (ej n d0) n (0:Int)).bind λQ2=>
    (match Q2 with
    |.inl G2=>some ((10:Int))
    |.inr G3=>(aN (du n d0) n (0:Int)).bind λQ3=>
     (match Q3 with
     |.inl G6=>some ((41:Int))
     |.inr G7=>(aN (eo n rec_ref03_wrong d0) n (0:Int)).bind λQ5=>
      (match Q5 with
      |.inl G8=>some (G8)
      |.inr G9=>some ((0:Int)))))
set_option maxRecDepth 20000 in
theorem py (n:Nat) (rec_ref03_wrong:TF0→Option Int) (hrec_ref03_wrong: ∀ (M:Mem) (c0:Lv) (d0:TF0) (h0:Rep M (ay d0) c0) (r:Int) (hF:rec_ref03_wrong d0=some r),Ok Tryz.prog M 95 [.agg c0.toArray] (λ_ v=>v=iL r)) (M:Mem) (c0:Lv) (d0:TF0) (h0:Rep M (ay d0) c0) (r:Int) (hF:il n rec_ref03_wrong d0=some r):Ok Tryz.prog M 95 [.agg c0.toArray] (λ_ v=>v=iL r):=by
 unfold il at hF
 intro M1 hM0 w0 H w p0
 replace h0:=Rep.mono hM0 _ _ h0
 obtain⟨Z1,P1,Z2,P2,rfl,B1,B2⟩:=TF0.opn h0
 refine Re 76 Tryz.func95 rfl λa0 f0=>RR (Y13 (cs:=(aTF0 d0 Z1 P1 Z2 P2)) (T:=73) f0 p0 λQ1 V1 W1 J1 R1 N1 _ f=>?_)
 have R2:=bR R1
 refine Ye f 1 λ_ f=>ag (RR (Z f (Y36 (cs:=(lTF0 d0 Z1 P1 Z2 P2)) rfl (ad:=⟨Q1,0,none⟩) (λj v h=>N1.cell (R2 j v h))) λ_ f=>?_))
 obtain⟨X1,S1,F1⟩:=bS hF
 refine Y18 f N1 (rf n _ _ d0 (TF0.shutx (x:=d0) (B1.mono J1) (B2.mono J1)) X1 S1) λW2 N2 _ f=>Ye f 1 λ_ f=>RcF f F1 (λB3 F2=>?_) λB3 F3=>?_
 ·have U1: (X1)=false:=by simpa using B3
  refine RR (Ye f 1 λ_ f=>wp_ret (aS (ao f rfl (Lk 2 (iL 2)) ?_)))
  cases sI F2
  exact⟨_,rfl,V1,J1,N2,rfl⟩
 ·have U2: (X1)=true:=by simpa using B3
  refine St (ag (ag ?_))
  obtain⟨cX,bX,F4⟩:=bS F3
  refine bj (λa_14 W3=>∃G1:Bool,cX=G1∧∃V2:Mem,V1.le V2∧Frm 76 [(1,pP Q1),(18,bO G1)] a_14∧Hp w0 V2 (H) W3) ?_ ?_
  ·refine aI (Y f 1 λ_ f=>Y15 f N2 R2 2 rfl λ_ f=>Y f 2 λ_ f=>?_)
   rcases cE bX with⟨B4,F5⟩|⟨B4,F6⟩
   ·have U3:=dI.1 B4
    have f:=f.st 14 (cB B4)
    refine Ye f 4 λ_ f=>?_
    exact⟨(true),(sI F5).symm,V1,(mR _),f.kp,N2⟩
   ·have U4:=ap dI B4
    have f:=f.st 14 (cB B4)
    refine Y f 1 λ_ f=>Y15 f N2 R2 2 rfl λ_ f=>Ye f 2 λ_ f=>?_
    exact⟨(decide ((9007199254740992:Int)<d0.an)),(sI F6).symm,V1,(mR _),f.kp,N2⟩
  ·rintro a_14 W3 ⟨G1,dg,V2,J2,f,N3⟩
   subst cX
   refine aH (RcF f F4 (λB5 F7=>?_) λB5 F8=>?_)
   ·refine RR (Ye f 1 λ_ f=>wp_ret (aS (ao f rfl (Lk 2 (iL 20)) ?_)))
    cases sI F7
    exact⟨_,rfl,V2,(J1.trans J2),N3,rfl⟩
   ·refine St (ag (RR (Y f 1 λ_ f=>Y15 f N3 (fzu J2 R2) 3 rfl λ_ f=>?_)))
    obtain⟨X2,S2,F9⟩:=bS F8
    refine Y18 f N3 (kv n _ d0.ah X2 S2) λW4 N4 _ f=>Ye f 1 λ_ f=>RcF f F9 (λB6 F10=>?_) λB6 F11=>?_
    ·have U7: (X2)=false:=by simpa using B6
     refine RR (Ye f 1 λ_ f=>wp_ret (aS (ao f rfl (Lk 2 (iL 10)) ?_)))
     cases sI F10
     exact⟨_,rfl,V2,(J1.trans J2),N4,rfl⟩
    ·have U8: (X2)=true:=by simpa using B6
     refine St (ag (RR (Ye f 1 λ_ f=>wp_block ?_)))
     obtain⟨Q2,bH,F12⟩:=bS F11
     refine wp_mono (Q:=λe a w=>(e=.ret∧(∃G2:Unit,Q2=.inl G2∧∃V4:Mem,V2.le V4∧Frm 76 [(2,iL 10)] a∧Hp w0 V4 (H) w))∨(e=.exit 0∧(∃G3:Unit,Q2=.inr G3∧∃V5:Mem,V2.le V5∧Frm 76 [(1,pP Q1)] a∧Hp w0 V5 (H) w))) (bu (n:=76) (w0:=w0) (M:=V2) (λ (I1,K1)=>[(1,pP Q1),(3,iL K1)]) (λ (I1,K1)=>(H)) (λ (I1,K1) MM=>aN (ej n d0) I1 K1=some Q2) (λ (I1,K1)=>I1) (n,(0:Int)) (f.kp) N4 bH ?_) ?_
     ·rintro⟨I1,K1⟩ V3 _ W5 J3 dc f N5
      have bI:=dc
      obtain⟨I2,jP,rfl,be,T1⟩:=aT bI
      unfold ej at be
      refine ag (RR (Y f 2 λ_ f=>Y15 f N5 (fzu (J2.trans J3) R2) 5 rfl λ_ f=>Ye f 2 λ_ f=>RcF f be (λB7 F13=>?_) λB7 F19=>?_))
      ·have U9:=dI.1 B7
       refine St (ag (wp_block (RR (Y f 1 λ_ f=>Y15 f N5 (fzu (J2.trans J3) R2) 5 rfl λ_ f=>Y f 1 λ_ f=>?_))))
       obtain⟨X3,S3,F14⟩:=bS F13
       obtain⟨C1,cP,dS,-,D1,R3⟩:=Sli.at_ (B2.mono ((J1.trans J2).trans J3)) S3
       obtain rfl:cP=[S X3]:=D1
       refine Z f (Y34 dS rfl (len:=d0.ae.length) (cap:=P2) (k:=.i64) (i:=K1) (e:=9) (sz:=1) (aF S3) (aE S3)) λ_ f=>Y15 f N5 R3 0 rfl λ_ f=>?_
       obtain⟨X4,S4,F15⟩:=bS F14
       refine Y18 f N5 (kv n _ X3 X4 S4) λW6 N6 _ f=>Ye f 1 λ_ f=>RcF f F15 (λB8 F16=>?_) λB8 F17=>?_
       ·have U10: (X4)=false:=by simpa using B8
        refine RR (Ye f 1 λ_ f=>wp_ret (bV (aS (aS ?_))))
        cases sI F16
        exact .inl ⟨rfl,(),(sI T1).symm,V3,J3,f.kp,N6⟩
       ·have U11: (X4)=true:=by simpa using B8
        refine wp_skip (cG (aH (aI (Y f 1 λ_ f=>?_))))
        obtain⟨O1,F18⟩:=nS F17
        refine Y f 1 λ_ f=>?_
        have f:=f.st 29 (iW O1)
        refine Ye f 1 λ_ f=>?_
        cases sI F18
        exact⟨⟨I2,K1+1⟩,Nat.lt_succ_self _,V3,J3,T1,f.kp,N6⟩
      ·have U12:=ap dI B7
       refine wp_exit (co (co ?_))
       cases sI F19
       exact .inr ⟨rfl,(),(sI T1).symm,V3,J3,f.kp,N5⟩
     ·rintro _ _ W9 (⟨rfl,G2,rfl,V4,J4,f,N7⟩|⟨rfl,G3,rfl,V5,J5,f,N8⟩)
      ·refine bV (aS (ao f rfl (Lk 2 (iL 10)) ?_))
       cases sI F12
       exact⟨_,rfl,V4,((J1.trans J2).trans J4),N7,rfl⟩
      ·refine iq (aH (ag (RR (Ye f 1 λ_ f=>wp_block ?_))))
       obtain⟨Q3,sf,F20⟩:=bS F12
       refine wp_mono (Q:=λe a w=>(e=.ret∧(∃G6:Unit,Q3=.inl G6∧∃V10:Mem,V5.le V10∧Frm 76 [(2,iL 41)] a∧Hp w0 V10 (H) w))∨(e=.exit 2∧(∃G7:Unit,Q3=.inr G7∧∃V11:Mem,V5.le V11∧Frm 76 [(1,pP Q1)] a∧Hp w0 V11 (H) w))) (bu (n:=76) (w0:=w0) (M:=V5) (λ (I3,K2)=>[(1,pP Q1),(4,iL K2)]) (λ (I3,K2)=>(H)) (λ (I3,K2) MM=>aN (du n d0) I3 K2=some Q3) (λ (I3,K2)=>I3) (n,(0:Int)) (f.kp) N8 sf ?_) ?_
       ·rintro⟨I3,K2⟩ V6 _ W10 J6 I_2 f N9
        have sg:=I_2
        obtain⟨I4,r_2,rfl,nj,T2⟩:=aT sg
        unfold du at nj
        refine ag (RR (Y f 2 λ_ f=>Y15 f N9 (fzu ((J2.trans J5).trans J6) R2) 5 rfl λ_ f=>Ye f 2 λ_ f=>RcF f nj (λB9 F21=>?_) λB9 F31=>?_))
        ·have U13:=dI.1 B9
         refine St (ag (wp_block (RR (Ye f 1 λ_ f=>wp_block ?_))))
         obtain⟨Q4,hL_3,F22⟩:=bS F21
         refine wp_mono (Q:=λe a w=>(e=.ret∧(∃G4:Unit,Q4=.inl G4∧∃V8:Mem,V6.le V8∧Frm 76 [(2,iL 41)] a∧Hp w0 V8 (H) w))∨(e=.exit 4∧(∃G5:Unit,Q4=.inr G5∧∃V9:Mem,V6.le V9∧Frm 76 [(1,pP Q1),(4,iL K2)] a∧Hp w0 V9 (H) w))) (bu (n:=76) (w0:=w0) (M:=V6) (λ (I5,K3)=>[(1,pP Q1),(4,iL K2),(5,iL K3)]) (λ (I5,K3)=>(H)) (λ (I5,K3) MM=>aN (en n d0 K2) I5 K3=some Q4) (λ (I5,K3)=>I5) (n,(0:Int)) (f.kp) N9 hL_3 ?_) ?_
         ·rintro⟨I5,K3⟩ V7 _ W11 J7 I_3 f N10
          have I_3L:=I_3
          obtain⟨I6,r_3,rfl,hs_3,T3⟩:=aT I_3L
          unfold en at hs_3
          refine ag (RR (Ye f 3 λ_ f=>RcF f hs_3 (λB10 F23=>?_) λB10 F29=>?_))
          ·have U14:=dI.1 B10
           refine St (ag (wp_block (ag (cR N10 kr kr (Y5 default f 1 λ_ f=>Y4 f (fzu (((J2.trans J5).trans J6).trans J7) R2) 5 rfl λ_ f=>Y5 default f 1 λ_ f=>?_)))))
           obtain⟨X5,S5,F24⟩:=bS F23
           obtain⟨C2,jX,lp,-,D2,R4⟩:=Sli.at_ (B2.mono ((((J1.trans J2).trans J5).trans J6).trans J7)) S5
           obtain rfl:jX=[S X5]:=D2
           refine Y2 (v:=Pa (C2.add (K3.toNat*1))) f (λ_ pq=>Y34 lp rfl (len:=d0.ae.length) (cap:=P2) (k:=.i64) (i:=K3) (e:=9) (sz:=1) (aF S5) (aE S5)) λ_ f=>Y4 f R4 0 rfl λ_ f=>Y5 default f 1 λ_ f=>Y4 f (fzu (((J2.trans J5).trans J6).trans J7) R2) 5 rfl λ_ f=>Y5 default f 1 λ_ f=>?_
           obtain⟨X6,S6,F25⟩:=bS F24
           obtain⟨C3,c_3,sh,-,D3,R5⟩:=Sli.at_ (B2.mono ((((J1.trans J2).trans J5).trans J6).trans J7)) S6
           obtain rfl:c_3=[S X6]:=D3
           refine Y2 (v:=Pa (C3.add (K2.toNat*1))) f (λ_ pq=>Y34 sh rfl (len:=d0.ae.length) (cap:=P2) (k:=.i64) (i:=K2) (e:=9) (sz:=1) (aF S6) (aE S6)) λ_ f=>Y4 f R5 0 rfl λ_ f=>Y2 (v:=bO (decide (X5=X6))) f (λ_ pq=>Y42 rfl (l:=X5) (m:=X6)) λ_ f=>bW rfl ?_
           intro W12 N11
           refine aH (RcF f F25 (λB11 F26=>?_) λB11 F27=>?_)
           ·have U15:=dI.1 B11
            refine RR (Ye f 1 λ_ f=>wp_ret (bV (aS (aS ?_))))
            cases sI F26
            exact .inl ⟨rfl,(),(sI T3).symm,V7,J7,f.kp,N11⟩
           ·have U16:=ap dI B11
            refine wp_skip (cG (aH (aI (Y f 1 λ_ f=>?_))))
            obtain⟨O2,F28⟩:=nS F27
            refine Y f 1 λ_ f=>?_
            have f:=f.st 48 (iW O2)
            refine Ye f 1 λ_ f=>?_
            cases sI F28
            exact⟨⟨I6,K3+1⟩,Nat.lt_succ_self _,V7,J7,T3,f.kp,N11⟩
          ·have U17:=ap dI B10
           refine wp_exit (co (co ?_))
           cases sI F29
           exact .inr ⟨rfl,(),(sI T3).symm,V7,J7,f.kp,N10⟩
         ·rintro _ _ W15 (⟨rfl,G4,rfl,V8,J8,f,N12⟩|⟨rfl,G5,rfl,V9,J9,f,N13⟩)
          ·refine bV (bV (aS (aS ?_)))
           cases sI F22
           exact .inl ⟨rfl,(),(sI T2).symm,V8,(J6.trans J8),f.kp,N12⟩
          ·refine iq (cG (aH (aI (Y f 1 λ_ f=>?_))))
           obtain⟨O3,F30⟩:=nS F22
           refine Y f 1 λ_ f=>?_
           have f:=f.st 43 (iW O3)
           refine Ye f 1 λ_ f=>?_
           cases sI F30
           exact⟨⟨I4,K2+1⟩,Nat.lt_succ_self _,V9,(J6.trans J9),T2,f.kp,N13⟩
        ·have U18:=ap dI B9
         refine wp_exit (co (co ?_))
         cases sI F31
         exact .inr ⟨rfl,(),(sI T2).symm,V6,J6,f.kp,N9⟩
       ·rintro _ _ W18 (⟨rfl,G6,rfl,V10,J10,f,N14⟩|⟨rfl,G7,rfl,V11,J11,f,N15⟩)
        ·refine bV (aS (ao f rfl (Lk 2 (iL 41)) ?_))
         cases sI F20
         exact⟨_,rfl,V10,(((J1.trans J2).trans J5).trans J10),N14,rfl⟩
        ·refine iq (aH (ag (RR (Ye f 1 λ_ f=>wp_block ?_))))
         obtain⟨Q5,hL_4,F32⟩:=bS F20
         refine wp_mono (Q:=λe a w=>(e=.ret∧(∃G8:Int,Q5=.inl G8∧∃V13:Mem,V11.le V13∧Frm 76 [(2,iL G8)] a∧Hp w0 V13 (H) w))∨(e=.exit 6∧(∃G9:Unit,Q5=.inr G9∧∃V14:Mem,V11.le V14∧Frm 76 [] a∧Hp w0 V14 (H) w))) (bu (n:=76) (w0:=w0) (M:=V11) (λ (I7,K4)=>[(1,pP Q1),(6,iL K4)]) (λ (I7,K4)=>(H)) (λ (I7,K4) MM=>aN (eo n rec_ref03_wrong d0) I7 K4=some Q5) (λ (I7,K4)=>I7) (n,(0:Int)) (f.kp) N15 hL_4 ?_) ?_
         ·rintro⟨I7,K4⟩ V12 _ W19 J12 I_4 f N16
          have I_4L:=I_4
          obtain⟨I8,r_4,rfl,hs_4,T4⟩:=aT I_4L
          unfold eo at hs_4
          refine ag (RR (Y f 2 λ_ f=>Y15 f N16 (fzu (((J2.trans J5).trans J11).trans J12) R2) 4 rfl λ_ f=>Ye f 2 λ_ f=>RcF f hs_4 (λB12 F33=>?_) λB12 F39=>?_))
          ·have U19:=dI.1 B12
           refine St (ag (wp_block (RR (Y f 1 λ_ f=>Y15 f N16 (fzu (((J2.trans J5).trans J11).trans J12) R2) 4 rfl λ_ f=>Y f 1 λ_ f=>?_))))
           obtain⟨X7,S7,F34⟩:=bS F33
           obtain⟨C4,c_4,qG,-,D4,R6⟩:=Sli.at_ (B1.mono ((((J1.trans J2).trans J5).trans J11).trans J12)) S7
           obtain⟨Z3,P3,Z4,P4,rfl,B13,B14⟩:=TF0.opn D4
           refine Z f (Y34 qG rfl (len:=d0.ac.length) (cap:=P1) (k:=.i64) (i:=K4) (e:=73) (sz:=6) (aF S7) (aE S7)) λ_ f=>Z f (Y36 (cs:=(lTF0 X7 Z3 P3 Z4 P4)) rfl (ad:=C4.add (K4.toNat*6)) (λj v h=>N16.cell (R6 j v h))) λ_ f=>?_
           obtain⟨X8,S8,F35⟩:=bS F34
           refine Y18 f N16 (hrec_ref03_wrong _ _ X7 (TF0.shutx (x:=X7) B13 B14) X8 S8) λW20 N17 _ f=>Ye f 1 λ_ f=>RR (Ye f 2 λ_ f=>RcF f F35 (λB15 F36=>?_) λB15 F37=>?_)
           ·have U20: ¬ (X8=0):=(av dI).1 B15
            refine RR (Ye f 2 λ_ f=>wp_ret (bV (aS (aS ?_))))
            cases sI F36
            exact .inl ⟨rfl,X8,(sI T4).symm,V12,J12,f.kp,N17⟩
           ·have U21: ¬ (¬ (X8=0)):=ap (av dI) B15
            refine wp_skip (cG (aH (aI (Y f 1 λ_ f=>?_))))
            obtain⟨O4,F38⟩:=nS F37
            refine Y f 1 λ_ f=>?_
            have f:=f.st 66 (iW O4)
            refine Ye f 1 λ_ f=>?_
            cases sI F38
            exact⟨⟨I8,K4+1⟩,Nat.lt_succ_self _,V12,J12,T4,f.kp,N17⟩
          ·have U22:=ap dI B12
           refine wp_exit (co (co ?_))
           cases sI F39
           exact .inr ⟨rfl,(),(sI T4).symm,V12,J12,f.kp,N16⟩
         ·rintro _ _ W23 (⟨rfl,G8,rfl,V13,J13,f,N18⟩|⟨rfl,G9,rfl,V14,J14,f,N19⟩)
          ·refine bV (aS (ao f rfl (Lk 2 (iL G8)) ?_))
           cases sI F32
           exact⟨_,rfl,V13,((((J1.trans J2).trans J5).trans J11).trans J13),N18,rfl⟩
          ·refine iq (aH (RR (Ye f 1 λ_ f=>wp_ret (ao f rfl (Lk 2 (iL 0)) ?_))))
           cases sI F32
           exact⟨_,rfl,V14,((((J1.trans J2).trans J5).trans J11).trans J14),N19,rfl⟩
def di (n:Nat):Nat→TF0→Option Int
 |0=>λ_=>none
 |k+1=>il n (di n k)
def mE (n:Nat) (d0:TF0):Option Int:=di n n d0
theorem rg (n:Nat) (M:Mem) (c0:Lv) (d0:TF0) (h0:Rep M (ay d0) c0) (r:Int) (hF:mE n d0=some r):Ok Tryz.prog M 95 [.agg c0.toArray] (λ_ v=>v=iL r):=by
 have key: ∀ (k:Nat) (M:Mem) (c0:Lv) (d0:TF0) (h0:Rep M (ay d0) c0) (r:Int) (hF:di n k d0=some r),Ok Tryz.prog M 95 [.agg c0.toArray] (λ_ v=>v=iL r):=by
  intro k
  induction k with
  |zero=>intro M c0 d0 h0 r hF;simp[di] at hF
  |succ k ih=>intro M c0 d0 h0 r hF;exact py n (di n k) ih M c0 d0 h0 r hF
 exact key n M c0 d0 h0 r hF
def gJ (n:Nat) (d0:TF0):Option Int:=
 (lS n d0 (24:Int)).bind λX1=>
 bif X1 then
  (some ((30:Int)))
 else
  (mE n d0).bind λX2=>
  bif(!(decide (X2=0))) then
   (some (X2))
  else
   (mD n d0).bind λX3=>
   bif(decide ((4096:Int)<X3)) then
    (some ((3:Int)))
   else
    some ((0:Int))
theorem kA (n:Nat) (M:Mem) (c0:Lv) (d0:TF0) (h0:Rep M (ay d0) c0) (r:Int) (hF:gJ n d0=some r):Ok Tryz.prog M 74 [.agg c0.toArray] (λ_ v=>v=iL r):=by
 unfold gJ at hF
 intro M1 hM0 w0 H w p0
 replace h0:=Rep.mono hM0 _ _ h0
 obtain⟨Z1,P1,Z2,P2,rfl,B1,B2⟩:=TF0.opn h0
 refine Re 14 Tryz.func74 rfl λa0 f0=>RR (Y13 (cs:=(aTF0 d0 Z1 P1 Z2 P2)) (T:=73) f0 p0 λQ1 V1 W1 J1 R1 N1 _ f=>?_)
 have R2:=bR R1
 refine Ye f 1 λ_ f=>ag (RR (Z f (Y36 (cs:=(lTF0 d0 Z1 P1 Z2 P2)) rfl (ad:=⟨Q1,0,none⟩) (λj v h=>N1.cell (R2 j v h))) λ_ f=>?_))
 obtain⟨X1,S1,F1⟩:=bS hF
 refine Y18 f N1 (qr n _ _ d0 (TF0.shutx (x:=d0) (B1.mono J1) (B2.mono J1)) (24:Int) X1 S1) λW2 N2 _ f=>eT (RcF f F1 (λB3 F2=>?_) λB3 F3=>?_)
 ·refine RR (Ye f 1 λ_ f=>wp_ret (aS (ao f rfl (Lk 2 (iL 30)) ?_)))
  cases sI F2
  exact⟨_,rfl,V1,J1,N2,rfl⟩
 ·refine St (RR (Z f (Y36 (cs:=(lTF0 d0 Z1 P1 Z2 P2)) rfl (ad:=⟨Q1,0,none⟩) (λj v h=>N2.cell (R2 j v h))) λ_ f=>?_))
  obtain⟨X2,S2,F4⟩:=bS F3
  refine Y18 f N2 (rg n _ _ d0 (TF0.shutx (x:=d0) (B1.mono J1) (B2.mono J1)) X2 S2) λW3 N3 _ f=>Ye f 1 λ_ f=>ag (RR (Ye f 2 λ_ f=>RcF f F4 (λB4 F5=>?_) λB4 F6=>?_))
  ·have U3: ¬ (X2=0):=(av dI).1 B4
   refine RR (Ye f 2 λ_ f=>wp_ret (aS (ao f rfl (Lk 2 (iL X2)) ?_)))
   cases sI F5
   exact⟨_,rfl,V1,J1,N3,rfl⟩
  ·have U4: ¬ (¬ (X2=0)):=ap (av dI) B4
   refine St (ag (RR (Z f (Y36 (cs:=(lTF0 d0 Z1 P1 Z2 P2)) rfl (ad:=⟨Q1,0,none⟩) (λj v h=>N3.cell (R2 j v h))) λ_ f=>?_)))
   obtain⟨X3,S3,F7⟩:=bS F6
   refine Y18 f N3 (re n _ _ d0 (TF0.shutx (x:=d0) (B1.mono J1) (B2.mono J1)) X3 S3) λW4 N4 _ f=>Ye f 1 λ_ f=>RcF f F7 (λB5 F8=>?_) λB5 F9=>?_
   ·have U5:=dI.1 B5
    refine RR (Ye f 1 λ_ f=>wp_ret (aS (ao f rfl (Lk 2 (iL 3)) ?_)))
    cases sI F8
    exact⟨_,rfl,V1,J1,N4,rfl⟩
   ·have U6:=ap dI B5
    refine St (RR (Ye f 1 λ_ f=>wp_ret (ao f rfl (Lk 2 (iL 0)) ?_)))
    cases sI F9
    exact⟨_,rfl,V1,J1,N4,rfl⟩
def gi (n:Nat) (rec_tree_depth:TF0→Int→Option Int) (d0:TF0) (d1:Int) (K1:Int×Int):Option (Lp (Int×Int) Int):=
    bif(decide (K1.2<((d0.ac.length:Nat):Int))) then
     (bif(decide ((0:Int)<d1)) then
      ((aR d0.ac K1.2).bind λX1=>
      aZ (inR .i64 (d1-1))<|
      (rec_tree_depth X1 (d1-1)).bind λX2=>
      aZ (inR .i64 (K1.2+1))<|
      some (.nx (max K1.1 X2,K1.2+1)))
     else
      aZ (inR .i64 (K1.2+1))<|
      some (.nx (K1.1,K1.2+1)))
    else
     some (.br K1.1)
def iQ (n:Nat) (rec_tree_depth:TF0→Int→Option Int) (d0:TF0) (d1:Int):Option Int:=
 (aN (gi n rec_tree_depth d0 d1) n ((0:Int),(0:Int))).bind λG1=>
 aZ (inR .i64 (G1+1))<|
 some (G1+1)
set_option maxRecDepth 20000 in
theorem qt (n:Nat) (rec_tree_depth:TF0→Int→Option Int) (hrec_tree_depth: ∀ (M:Mem) (ad0:Addr) (c0:Lv) (d0:TF0) (h0:Rep M (ay d0) c0) (q0: ∀j v,c0[j]? =some v→M.cell? (ad0.add j)=some v) (d1:Int) (r:Int) (hF:rec_tree_depth d0 d1=some r),Ok Tryz.prog M 97 [Pa ad0,iL d1] (λ_ v=>v=iL r)) (M:Mem) (ad0:Addr) (c0:Lv) (d0:TF0) (h0:Rep M (ay d0) c0) (q0: ∀j v,c0[j]? =some v→M.cell? (ad0.add j)=some v) (d1:Int) (r:Int) (hF:iQ n rec_tree_depth d0 d1=some r):Ok Tryz.prog M 97 [Pa ad0,iL d1] (λ_ v=>v=iL r):=by
 unfold iQ at hF
 intro M1 hM0 w0 H w p0
 replace h0:=Rep.mono hM0 _ _ h0
 replace q0:=λj v h=>hM0.cell (q0 j v h)
 obtain⟨Z1,P1,Z2,P2,rfl,B1,B2⟩:=TF0.opn h0
 refine Re 31 Tryz.func97 rfl λa0 f0=>RR (Ye f0 1 λ_ f=>RR (Ye f 1 λ_ f=>ag (RR (Y f 3 λ_ f=>Y15 f p0 q0 4 rfl λ_ f=>Ye f 2 λ_ f=>wp_block ?_))))
 obtain⟨Q1,bH,F1⟩:=bS hF
 refine wp_mono (Q:=λe a w=>(e=.exit 0∧(∃G1:Int,Q1=G1∧∃V2:Mem,M1.le V2∧Frm 31 [(5,iL G1)] a∧Hp w0 V2 (H) w))) (bu (n:=31) (w0:=w0) (M:=M1) (λ (I1,K1)=>[(0,Pa ad0),(1,iL d1),(5,iL K1.1),(11,iL ((d0.ac.length:Nat):Int)),(12,iL K1.2)]) (λ (I1,K1)=>(H)) (λ (I1,K1) MM=>aN (gi n rec_tree_depth d0 d1) I1 K1=some Q1) (λ (I1,K1)=>I1) (n,((0:Int),(0:Int))) (f.kp) p0 bH ?_) ?_
 ·rintro⟨I1,K1⟩ V1 _ W1 J1 dc f N1
  have bI:=dc
  obtain⟨I2,jP,rfl,be,T1⟩:=aT bI
  unfold gi at be
  refine RR (Ye f 1 λ_ f=>ag (RcF f be (λB3 F2=>?_) λB3 F10=>?_))
  ·have U1:=dI.1 B3
   refine St (ag (wp_block (RR (Ye f 2 λ_ f=>RR (Ye f 2 λ_ f=>RcF f F2 (λB4 F3=>?_) λB4 F8=>?_)))))
   ·have U2:=dI.1 B4
    refine aI (Y f 4 λ_ f=>Y15 f N1 (fzu J1 q0) 4 rfl λ_ f=>Y f 1 λ_ f=>?_)
    obtain⟨X1,S1,F4⟩:=bS F3
    obtain⟨C1,cP,dS,-,D1,R1⟩:=Sli.at_ (B1.mono J1) S1
    obtain⟨Z3,P3,Z4,P4,rfl,B5,B6⟩:=TF0.opn D1
    refine Z f (Y34 dS rfl (len:=d0.ac.length) (cap:=P1) (k:=.i64) (i:=K1.2) (e:=73) (sz:=6) (aF S1) (aE S1)) λ_ f=>Y f 1 λ_ f=>?_
    obtain⟨O1,F5⟩:=nS F4
    refine Y f 1 λ_ f=>?_
    have f:=f.st 25 (iW O1)
    obtain⟨X2,S2,F6⟩:=bS F5
    refine Y18 f N1 (hrec_tree_depth _ (C1.add (K1.2.toNat*6)) (lTF0 X1 Z3 P3 Z4 P4) X1 (TF0.shutx (x:=X1) B5 B6) (gE (R1) 0 rfl) (d1-1) X2 S2) λW2 N2 _ f=>Z (v:=iL (max K1.1 X2)) f (X_max (k:=.i64) (a:=K1.1) (b:=X2) rfl kr kr) λ_ f=>Y f 1 λ_ f=>aA rfl (cG (aH (aI ?_)))
    obtain⟨O2,F7⟩:=nS F6
    refine Y f 1 λ_ f=>?_
    have f:=f.st 28 (iW O2)
    refine Ye f 1 λ_ f=>?_
    cases sI F7
    exact⟨⟨I2,(max K1.1 X2,K1.2+1)⟩,Nat.lt_succ_self _,V1,J1,T1,f.kp,N2⟩
   ·have U3:=ap dI B4
    refine wp_skip (cG (aH (aI ?_)))
    obtain⟨O3,F9⟩:=nS F8
    refine Y f 1 λ_ f=>?_
    have f:=f.st 28 (iW O3)
    refine Ye f 1 λ_ f=>?_
    cases sI F9
    exact⟨⟨I2,(K1.1,K1.2+1)⟩,Nat.lt_succ_self _,V1,J1,T1,f.kp,N1⟩
  ·have U4:=ap dI B3
   refine wp_exit (co (co ?_))
   cases sI F10
   exact⟨rfl,K1.1,(sI T1).symm,V1,J1,f.kp,N1⟩
 ·rintro _ _ W4 ⟨rfl,G1,hq_,V2,J2,f,N3⟩
  subst Q1
  refine iq (aH (RR (Y f 1 λ_ f=>?_)))
  obtain⟨O4,F11⟩:=nS F1
  refine Y f 1 λ_ f=>?_
  have f:=f.st 30 (iW O4)
  refine Ye f 1 λ_ f=>wp_ret (ao f rfl (Lk 4 (iL (G1+1))) ?_)
  cases sI F11
  exact⟨_,rfl,V2,J2,N3,rfl⟩
def dP (n:Nat):Nat→TF0→Int→Option Int
 |0=>λ_ _=>none
 |k+1=>iQ n (dP n k)
def oc (n:Nat) (d0:TF0) (d1:Int):Option Int:=dP n n d0 d1
theorem sp (n:Nat) (M:Mem) (ad0:Addr) (c0:Lv) (d0:TF0) (h0:Rep M (ay d0) c0) (q0: ∀j v,c0[j]? =some v→M.cell? (ad0.add j)=some v) (d1:Int) (r:Int) (hF:oc n d0 d1=some r):Ok Tryz.prog M 97 [Pa ad0,iL d1] (λ_ v=>v=iL r):=by
 have key: ∀ (k:Nat) (M:Mem) (ad0:Addr) (c0:Lv) (d0:TF0) (h0:Rep M (ay d0) c0) (q0: ∀j v,c0[j]? =some v→M.cell? (ad0.add j)=some v) (d1:Int) (r:Int) (hF:dP n k d0 d1=some r),Ok Tryz.prog M 97 [Pa ad0,iL d1] (λ_ v=>v=iL r):=by
  intro k
  induction k with
  |zero=>intro M ad0 c0 d0 h0 q0 d1 r hF;simp[dP] at hF
  |succ k ih=>intro M ad0 c0 d0 h0 q0 d1 r hF;exact qt n (dP n k) ih M ad0 c0 d0 h0 q0 d1 r hF
 exact key n M ad0 c0 d0 h0 q0 d1 r hF
set_option maxRecDepth 100000 in
theorem walk_iter (v:TF0) (hlen: (cb v).length≤9223372036854775806) (M:Mem) (bv:Nat) (cs:Lv) (hrep:Rep M (ay v) cs) (hbv: ∀j u,cs[j]? =some u→M.cell? ((⟨bv,0,none⟩:Addr).add j)=some u):
 IterOk Tryz.prog 109 [pP bv] valsV (cb v) M:=by
 refine⟨Go.Proofs.enters_of Tryz.func109 kr rfl,λσ β Y s0 r hr l J Jx hJ hJx hY w0 M1 E H w hM0 hj p0=>?_⟩
 refine Re 7 Tryz.func109 rfl (λa0 f0=>?_)
 replace f0:Frm 7 [(0,.func (.yield l) #[] #[]),(1,pP bv)] a0:=f0
 refine ag ?_
 refine aI ?_
 refine W_box (cs:=#[.func (.yield l) #[] #[]]) (T:=104) f0 p0 1 [1,2] (λb=>[(1,pP bv),(2,pP b)]) (λ_=>by kernel_rfl) (λby_ M2 w hM1 hc p1 a_1 f_1=>?_)
 replace f_1:Frm 7 [(1,pP bv),(2,pP by_)] a_1:=f_1
 refine aA rfl ?_
 refine aH ?_
 refine ag ?_
 refine aI ?_
 refine W_alloc f_1 p1 1 [1,2,3] (.cells #[.nilFunc] 116 (0,0)) (λb=>[(1,pP bv),(2,pP by_),(3,pP b)]) (λ_=>by kernel_rfl) (λbs w p2 a_2 f_2=>?_)
 replace f_2:Frm 7 [(1,pP bv),(2,pP by_),(3,pP bs)] a_2:=f_2
 refine aA rfl ?_
 refine aH ?_
 refine ag ?_
 refine aI ?_
 refine iP (L':=[(1,pP bv),(3,pP bs),(4,.func (.func 110) #[] #[pP by_,pP bs])]) (w':=w) f_2 1 [1,3,4] kr (λa_3 f_3=>?_)
 refine W_store1 f_3 p2 0 kr kr rfl rfl (b:=bs) (j:=0) (v:=.func (.func 110) #[] #[pP by_,pP bs]) kr kr rfl kr (by exact rfl) (by simp) (by simp)
  (.obj bs (.cells #[.func (.func 110) #[] #[pP by_,pP bs]] 116 (0,0))::(E++H)) (by exact rfl) (λw p3 a_4 f_4=>?_)
 refine aA rfl ?_
 refine aH ?_
 obtain⟨hM2,p4⟩:=p3.freeze
 have hself: (M2.add bs (.cells #[.func (.func 110) #[] #[pP by_,pP bs]] 116 (0,0))).cell? ⟨bs,0,none⟩=some (.func (.func 110) #[] #[pP by_,pP bs]):=by rw[ko];rfl
 generalize (M2.add bs (.cells #[.func (.func 110) #[] #[pP by_,pP bs]] 116 (0,0)))=M3 at hM2 p4 hself
 have hM3:=hM1.trans hM2
 refine aI ?_
 refine ls (v:=.func (.func 110) #[] #[pP by_,pP bs]) f_4 kr kr rfl rfl (gz (v:=.func (.func 110) #[] #[pP by_,pP bs]) rfl (ad:=⟨bs,0,none⟩) kr kr (p4.cell hself)) (λa_5 f_5=>?_)
 have hcall:=walkIns by_ bs l Y J Jx hJ hY (SizeOf.sizeOf v+1) v (Nat.lt_succ_self _) hlen s0 r hr M3 ⟨bv,0,none⟩ cs (Rep.mono (hM0.trans hM3) _ _ hrep) (λj u h=>(hM0.trans hM3).cell (hbv j u h)) (hM2.cell (hc 0 _ rfl)) hself w0 M3 E H w (Mem.le_refl _) (hJ _ _ _ _ hM3 hj) p4
 refine W_call (R:=λ_ w'=>∃M' E',M3.le M'∧Hp w0 M' (E'++H) w'∧match r with
  |.nx s'=>J s' M' E'
  |.br b=>Jx b M' E') f_5 kr kr rfl rfl kr (hcall.mono λe w' ⟨M',E',g1,g2,g3⟩=>?_) ?_
 ·cases r with
  |nx s'=>exact⟨_,g3.1,M',E',g1,g2,g3.2⟩
  |br b=>exact⟨_,g3.1,M',E',g1,g2,g3.2⟩
 rintro v_1 w_4 ⟨M4,E4,hM4,p_4,g4⟩ a_6 f_6
 refine aA rfl ?_
 refine E_end0 f_6 rfl ?_
 cases r with
 |nx s'=>exact⟨_,rfl,M4,E4,hM3.trans hM4,p_4,g4⟩
 |br b=>exact⟨_,rfl,M4,E4,hM3.trans hM4,p_4,g4⟩
def WalkRes (v:TF0) (M:Mem) (u:Value):Prop:=∃f caps,u=.func (.func f) #[] caps.toArray∧IterOk Tryz.prog f caps valsV (cb v) M
set_option maxRecDepth 100000 in
theorem walk_ok (v:TF0) (hlen: (cb v).length≤9223372036854775806) (M:Mem) (cs:Lv) (h0:Rep M (ay v) cs):Ok Tryz.prog M 98 [.agg cs.toArray] (λM' u=>WalkRes v M' u):=by
 intro M1 hM0 w0 H w p0
 replace h0:=Rep.mono hM0 _ _ h0
 obtain⟨A_1,nk,A_2,mo,rfl,h_1,h_2⟩:=TF0.opn h0
 refine Re 4 Tryz.func98 rfl (λa0 f0=>?_)
 replace f0:Frm 4 [(0,.agg (aTF0 v A_1 nk A_2 mo))] a0:=f0
 refine ag ?_
 refine aI ?_
 refine W_box (cs:=(aTF0 v A_1 nk A_2 mo)) (T:=73) f0 p0 1 [1] (λb=>[(1,pP b)]) (λ_=>by kernel_rfl) (λbv M2 w hM1 hc p1 a_1 f_1=>?_)
 replace f_1:Frm 4 [(1,pP bv)] a_1:=f_1
 have hc2:=bR hc
 refine iP (L':=[(1,pP bv)]) (w':=w) f_1 1 [1] kr (λa_2 f_2=>?_)
 refine aA rfl ?_
 refine aH ?_
 refine ag ?_
 refine aI ?_
 refine iP (L':=[(2,.func (.func 109) #[] #[pP bv])]) (w':=w) f_2 2 [2] kr (λa_3 f_3=>?_)
 refine aA rfl ?_
 refine aH ?_
 refine wp_ret ?_
 refine ao f_3 rfl (Lk 2 (.func (.func 109) #[] #[pP bv])) ?_
 refine⟨_,rfl,M2,hM1,p1,109,[pP bv],rfl,?_⟩
 exact walk_iter v hlen M2 bv _ (Rep.mono hM1 _ _ h0) hc2
def eN (n:Nat) (d0:Bs):Option Bool:=
 (jo n d0).bind λX1=>
 some ((X1))
theorem kB (n:Nat) (M:Mem) (hG:GL M) (d0:Bs) (r:Bool) (hF:eN n d0=some r):Ok Tryz.prog M 100 [S d0] (λ_ v=>v=bO r):=by
 unfold eN at hF
 intro M1 hM0 w0 H w p0
 replace hG:=GL.mono hM0 hG
 refine Re 5 Tryz.func100 rfl λa0 f0=>RR (Ye f0 1 λ_ f=>RR (Y f 1 λ_ f=>?_))
 obtain⟨X1,S1,F1⟩:=bS hF
 refine Y18 f p0 (pw n _ hG d0 X1 S1) λW1 N1 _ f=>Ye f 1 λ_ f=>wp_ret (ao f rfl (Lk 2 (bO X1)) ?_)
 cases sI F1
 exact⟨_,rfl,M1,(mR _),N1,rfl⟩
def kd (n:Nat) (d0:Bs):Option Bool:=
 (eN n d0).bind λX1=>
 some ((!X1))
theorem qu (n:Nat) (M:Mem) (hG:GL M) (d0:Bs) (r:Bool) (hF:kd n d0=some r):Ok Tryz.prog M 112 [S d0] (λ_ v=>v=bO r):=by
 unfold kd at hF
 intro M1 hM0 w0 H w p0
 replace hG:=GL.mono hM0 hG
 refine Re 6 Tryz.func112 rfl λa0 f0=>RR (Ye f0 1 λ_ f=>RR (Y f 1 λ_ f=>?_))
 obtain⟨X1,S1,F1⟩:=bS hF
 refine Y18 f p0 (kB n _ hG d0 X1 S1) λW1 N1 _ f=>Ye f 2 λ_ f=>wp_ret (ao f rfl (Lk 2 (.bool !X1)) ?_)
 cases sI F1
 exact⟨_,rfl,M1,(mR _),N1,rfl⟩
def bw (n:Nat) (d0:List Bs) (K1:Int):Option (Lp Int (Sum Int Unit)):=
    bif(decide (K1<((d0.length:Nat):Int))) then
     ((aR d0 K1).bind λX1=>
     (kd n X1).bind λX2=>
     bif X2 then
      (some (.br (.inl K1)))
     else
      aZ (inR .i64 (K1+1))<|
      some (.nx (K1+1)))
    else
     some (.br (.inr ()))
def cg (n:Nat) (d0:List Bs):Option Int:=
 (aN (bw n d0) n (0:Int)).bind λQ1=>
 (match Q1 with
 |.inl G1=>some (G1)
 |.inr G2=>some ((-1:Int)))
theorem iR (n:Nat) (M:Mem) (hG:GL M) (A0:Oa) (cap0:Nat) (d0:List Bs) (h0:Sli M 1 Dat.str A0 cap0 d0) (r:Int) (hF:cg n d0=some r):Ok Tryz.prog M 119 [sL A0 d0 cap0,.func (.func 112) #[] #[]] (λ_ v=>v=iL r):=by
 unfold cg at hF
 intro M1 hM0 w0 H w p0
 replace hG:=GL.mono hM0 hG
 replace h0:=h0.mono hM0
 refine Re 19 Tryz.func119 rfl λa0 f0=>RR (Ye f0 1 λ_ f=>ag (RR (Ye f 3 λ_ f=>wp_block ?_)))
 obtain⟨Q1,bH,F1⟩:=bS hF
 refine wp_mono (Q:=λe a w=>(e=.ret∧(∃G1:Int,Q1=.inl G1∧∃V2:Mem,M1.le V2∧Frm 19 [(4,iL G1)] a∧Hp w0 V2 (H) w))∨(e=.exit 0∧(∃G2:Unit,Q1=.inr G2∧∃V3:Mem,M1.le V3∧Frm 19 [] a∧Hp w0 V3 (H) w))) (bu (n:=19) (w0:=w0) (M:=M1) (λ (I1,K1)=>[(0,sL A0 d0 cap0),(1,.func (.func 112) #[] #[]),(7,iL ((d0.length:Nat):Int)),(8,iL K1)]) (λ (I1,K1)=>(H)) (λ (I1,K1) MM=>aN (bw n d0) I1 K1=some Q1) (λ (I1,K1)=>I1) (n,(0:Int)) (f.kp) p0 bH ?_) ?_
 ·rintro⟨I1,K1⟩ V1 _ W1 J1 dc f N1
  have bI:=dc
  obtain⟨I2,jP,rfl,be,T1⟩:=aT bI
  unfold bw at be
  refine RR (Ye f 1 λ_ f=>ag (RcF f be (λB1 F2=>?_) λB1 F8=>?_))
  ·have U1:=dI.1 B1
   refine St (ag (wp_block (RR (Ye f 2 λ_ f=>RR (Y f 3 λ_ f=>?_)))))
   obtain⟨X1,S1,F3⟩:=bS F2
   obtain⟨C1,cP,dS,-,D1,R1⟩:=Sli.at_ (h0.mono J1) S1
   obtain rfl:cP=[S X1]:=D1
   refine Z f (Y34 dS rfl (len:=d0.length) (cap:=cap0) (k:=.i64) (i:=K1) (e:=9) (sz:=1) (aF S1) (aE S1)) λ_ f=>Y15 f N1 R1 0 rfl λ_ f=>?_
   obtain⟨X2,S2,F4⟩:=bS F3
   refine Y18 f N1 (qu n _ (GL.mono J1 hG) X1 X2 S2) λW2 N2 _ f=>eT (RcF f F4 (λB2 F5=>?_) λB2 F6=>?_)
   ·refine RR (Ye f 2 λ_ f=>wp_ret (bV (aS (aS ?_))))
    cases sI F5
    exact .inl ⟨rfl,K1,(sI T1).symm,V1,J1,f.kp,N2⟩
   ·refine wp_skip (cG (aH (aI ?_)))
    obtain⟨O1,F7⟩:=nS F6
    refine Y f 1 λ_ f=>?_
    have f:=f.st 18 (iW O1)
    refine Ye f 1 λ_ f=>?_
    cases sI F7
    exact⟨⟨I2,K1+1⟩,Nat.lt_succ_self _,V1,J1,T1,f.kp,N2⟩
  ·have U4:=ap dI B1
   refine wp_exit (co (co ?_))
   cases sI F8
   exact .inr ⟨rfl,(),(sI T1).symm,V1,J1,f.kp,N1⟩
 ·rintro _ _ W5 (⟨rfl,G1,rfl,V2,J2,f,N3⟩|⟨rfl,G2,rfl,V3,J3,f,N4⟩)
  ·refine bV (aS (ao f rfl (Lk 4 (iL G1)) ?_))
   cases sI F1
   exact⟨_,rfl,V2,J2,N3,rfl⟩
  ·refine iq (aH (RR (Ye f 1 λ_ f=>wp_ret (ao f rfl (Lk 4 (iL (-1))) ?_))))
   cases sI F1
   exact⟨_,rfl,V3,J3,N4,rfl⟩
def bD (n:Nat) (d0:List Bs):Option Bool:=
 (cg n d0).bind λX1=>
 some ((decide ((0:Int)≤X1)))
theorem im (n:Nat) (M:Mem) (hG:GL M) (A0:Oa) (cap0:Nat) (d0:List Bs) (h0:Sli M 1 Dat.str A0 cap0 d0) (r:Bool) (hF:bD n d0=some r):Ok Tryz.prog M 111 [sL A0 d0 cap0,.func (.func 112) #[] #[]] (λ_ v=>v=bO r):=by
 unfold bD at hF
 intro M1 hM0 w0 H w p0
 replace hG:=GL.mono hM0 hG
 replace h0:=h0.mono hM0
 refine Re 9 Tryz.func111 rfl λa0 f0=>RR (Ye f0 1 λ_ f=>RR (Y f 2 λ_ f=>?_))
 obtain⟨X1,S1,F1⟩:=bS hF
 refine Y18 f p0 (iR n _ hG A0 cap0 d0 h0 X1 S1) λW1 N1 _ f=>Ye f 2 λ_ f=>wp_ret (ao f rfl (Lk 4 (bO (decide ((0:Int)≤X1)))) ?_)
 cases sI F1
 exact⟨_,rfl,M1,(mR _),N1,rfl⟩
def dj (n:Nat) (d0:TF0) (K1:Int× (List (Bs×Bool))):Option (Lp (Int× (List (Bs×Bool))) (Sum (List (Bs×Bool)) (List (Bs×Bool)))):=
    bif(decide (K1.1<((d0.ae.length:Nat):Int))) then
     ((aR d0.ae K1.1).bind λX3=>
     bif((aG K1.2 X3).getD false) then
      (some (.br (.inl K1.2)))
     else
      aZ (inR .i64 (K1.1+1))<|
      some (.nx (K1.1+1,de K1.2 X3 (true))))
    else
     some (.br (.inr K1.2))
def kC (n:Nat) (d0:TF0):Option Int:=
 ((bif(decide (d0.ab=0)) then
  (some (.nx ((d0.ak),d0.an,d0.ah,d0.ac,d0.ae)))
   else
    bif(decide (d0.ab=1)) then
     (some (.nx ((false),d0.an,d0.ah,d0.ac,d0.ae)))
    else
     bif(decide (d0.ab=2)) then
      (some (.nx ((d0.ak),(0:Int),d0.ah,d0.ac,d0.ae)))
     else
      bif(decide (d0.ab=3)) then
       (some (.nx ((d0.ak),d0.an,([]:Bs),d0.ac,d0.ae)))
      else
       bif(decide (d0.ab=4)) then
        (some (.nx ((d0.ak),d0.an,d0.ah,([]:List TF0),d0.ae)))
       else
        bif(decide (d0.ab=5)) then
         (bif(!(decide (((d0.ae.length:Nat):Int)=((d0.ac.length:Nat):Int)))) then
          (((some ((2:Int)):Option Int)).map Lp.br)
         else
          some (.nx ((d0.ak),d0.an,d0.ah,([]:List TF0),([]:List Bs))))
        else
         ((some ((2:Int)):Option Int)).map Lp.br:Option (Lp (Bool×Int×Bs×List TF0×List Bs) Int))).bind λj=>joinF j λG1=>
 ((((bif G1.1 then
  (some ((true)))
     else
      bif(!(decide (G1.2.1=0))) then
       (some ((true)))
      else
       bif(!(decide (G1.2.2.1=[]))) then
        (some ((true)))
       else
        aZ (inR .i64 (((G1.2.2.2.1.length:Nat):Int)+ ((G1.2.2.2.2.length:Nat):Int)))<|
        some ((decide ((0:Int)<(((G1.2.2.2.1.length:Nat):Int)+ ((G1.2.2.2.2.length:Nat):Int))))):Option Bool)).bind λG2=>
   bif G2 then
    (((some ((2:Int)):Option Int)).map Lp.br)
   else
    ((bif(decide (d0.an<(-9007199254740992))) then
     (some ((true)))
      else
       some ((decide ((9007199254740992:Int)<d0.an))):Option Bool)).bind λG3=>
    bif G3 then
     (((some ((20:Int)):Option Int)).map Lp.br)
    else
     (eN n d0.ah).bind λX1=>
     bif !X1 then
      (((some ((10:Int)):Option Int)).map Lp.br)
     else
      (bD n d0.ae).bind λX2=>
      bif X2 then
       (((some ((10:Int)):Option Int)).map Lp.br)
      else
       some (.nx ()):Option (Lp Unit Int))).bind λj=>joinF j λG4=>
 (aN (dj n d0) n ((0:Int),([]:List (Bs×Bool)))).bind λQ2=>
 (match Q2 with
 |.inl G5=>some ((41:Int))
 |.inr G6=>some ((0:Int)))
set_option maxRecDepth 20000 in
theorem sq (n:Nat) (M:Mem) (hG:GL M) (ad0:Addr) (c0:Lv) (d0:TF0) (h0:Rep M (ay d0) c0) (q0: ∀j v,c0[j]? =some v→M.cell? (ad0.add j)=some v) (r:Int) (hF:kC n d0=some r):Ok Tryz.prog M 99 [Pa ad0] (λ_ v=>v=iL r):=by
 unfold kC at hF
 intro M1 hM0 w0 H w p0
 replace hG:=GL.mono hM0 hG
 replace h0:=Rep.mono hM0 _ _ h0
 replace q0:=λj v h=>hM0.cell (q0 j v h)
 obtain⟨Z1,P1,Z2,P2,rfl,B1,B2⟩:=TF0.opn h0
 refine Re 109 Tryz.func99 rfl λa0 f0=>RR (Ye f0 1 λ_ f=>RR (Y f 2 λ_ f=>Z f (Y36 (cs:=(lTF0 d0 Z1 P1 Z2 P2)) rfl (ad:=ad0) (λj v h=>p0.cell (q0 j v h))) λ_ f=>Y12 f p0 (.cells #[iB 0,bO false,iL 0,S [],Sn,Sn] 73 (0,0)) λQ1 W1 N1 _ f=>Ys (lTF0 d0 Z1 P1 Z2 P2) (aTF0 d0 Z1 P1 Z2 P2) f N1 rfl rfl λW2 N2 _ f=>eT (ag (RR (Y f 3 λ_ f=>Y15 f N2 q0 0 rfl λ_ f=>eT ?_)))))
 obtain⟨cX,bX,F1⟩:=bS hF
 refine bj (λa_33 W10=>∃G1:Bool×Int×Bs×List TF0×List Bs,cX=.nx G1∧∃V1:Mem,M1.le V1∧∃ (Z3:Oa),∃ (P3:Nat),∃ (Z4:Oa),∃ (P4:Nat),Sli V1 6 ay Z3 P3 G1.t3.1∧Sli V1 1 Dat.str Z4 P4 G1.t4∧Frm 109 [(0,Pa ad0),(3,pP Q1)] a_33∧Hp w0 V1 ((oC Q1 #[iB d0.ab,bO G1.1,iL G1.2.1,S G1.2.2.1,sL Z3 G1.t3.1 P3,sL Z4 G1.t4 P4] 73)::H) W10) ?_ ?_
 ·refine wp_block (RR (Ye f 2 λ_ f=>RcF f bX (λB3 F2=>?_) λB3 F3=>?_))
  ·have U1:=dI.1 B3
   refine wp_skip (cG (aH ?_))
   exact⟨((d0.ak),d0.an,d0.ah,d0.ac,d0.ae),(sI F2).symm,M1,(mR _),Z1,P1,Z2,P2,B1,B2,f.kp,N2⟩
  ·have U2:=ap dI B3
   refine RR (Ye f 2 λ_ f=>RcF f F3 (λB4 F4=>?_) λB4 F5=>?_)
   ·have U3:=dI.1 B4
    refine aI (Y f 1 λ_ f=>Y28 f N2 0 rfl rfl (b:=Q1) (j:=1) (v:=bO false) rfl (by exact rfl) (by simp) (by simp) _ rfl λW3 N3 _ f=>aA rfl (cG (aH ?_)))
    exact⟨((false),d0.an,d0.ah,d0.ac,d0.ae),(sI F4).symm,M1,(mR _),Z1,P1,Z2,P2,B1,B2,f.kp,N3⟩
   ·have U4:=ap dI B4
    refine RR (Ye f 2 λ_ f=>RcF f F5 (λB5 F6=>?_) λB5 F7=>?_)
    ·have U5:=dI.1 B5
     refine aI (Y f 1 λ_ f=>Y28 f N2 0 rfl rfl (b:=Q1) (j:=2) (v:=iL 0) rfl (by exact rfl) (by simp) (by simp) _ rfl λW4 N4 _ f=>aA rfl (cG (aH ?_)))
     exact⟨((d0.ak),(0:Int),d0.ah,d0.ac,d0.ae),(sI F6).symm,M1,(mR _),Z1,P1,Z2,P2,B1,B2,f.kp,N4⟩
    ·have U6:=ap dI B5
     refine RR (Ye f 2 λ_ f=>RcF f F7 (λB6 F8=>?_) λB6 F9=>?_)
     ·have U7:=dI.1 B6
      refine aI (Y f 1 λ_ f=>Y28 f N2 0 rfl rfl (b:=Q1) (j:=3) (v:=S []) rfl (by exact rfl) (by simp) (by simp) _ rfl λW5 N5 _ f=>aA rfl (cG (aH ?_)))
      exact⟨((d0.ak),d0.an,([]:Bs),d0.ac,d0.ae),(sI F8).symm,M1,(mR _),Z1,P1,Z2,P2,B1,B2,f.kp,N5⟩
     ·have U8:=ap dI B6
      refine RR (Ye f 2 λ_ f=>RcF f F9 (λB7 F10=>?_) λB7 F11=>?_)
      ·have U9:=dI.1 B7
       refine aI (Y f 1 λ_ f=>Y28 f N2 0 rfl rfl (b:=Q1) (j:=4) (v:=Sn) rfl (by exact rfl) (by simp) (by simp) _ rfl λW6 N6 _ f=>aA rfl (cG (aH ?_)))
       exact⟨((d0.ak),d0.an,d0.ah,([]:List TF0),d0.ae),(sI F10).symm,M1,(mR _),none,0,Z2,P2,Sli.nil,B2,f.kp,N6⟩
      ·have U10:=ap dI B7
       refine RR (Ye f 2 λ_ f=>RcF f F11 (λB8 F12=>?_) λB8 F16=>?_)
       ·have U11:=dI.1 B8
        refine ag (ag (cR N2 kr kr (Y5 default f 3 λ_ f=>Y4 f q0 5 rfl λ_ f=>Y5 default f 4 λ_ f=>Y4 f q0 4 rfl λ_ f=>Y5 default f 2 λ_ f=>bW rfl ?_)))
        intro W7 N7
        refine aH (RcF f F12 (λB9 F13=>?_) λB9 F15=>?_)
        ·have U12: ¬ (((d0.ae.length:Nat):Int)=((d0.ac.length:Nat):Int)):=(av dI).1 B9
         refine RR (Ye f 1 λ_ f=>wp_ret (aS (bV ?_)))
         have F14:=cC F13 F1
         refine aS (aS (ao f rfl (Lk 2 (iL 2)) ?_))
         cases sI F14
         exact⟨_,rfl,M1,(mR _),(N7.dropN 1),rfl⟩
        ·have U13: ¬ (¬ (((d0.ae.length:Nat):Int)=((d0.ac.length:Nat):Int))):=ap (av dI) B9
         refine St (aI (Y f 1 λ_ f=>Y28 f N7 0 rfl rfl (b:=Q1) (j:=4) (v:=Sn) rfl (by exact rfl) (by simp) (by simp) _ rfl λW8 N8 _ f=>Y f 1 λ_ f=>Y28 f N8 0 rfl rfl (b:=Q1) (j:=5) (v:=Sn) rfl (by exact rfl) (by simp) (by simp) _ rfl λW9 N9 _ f=>aA rfl (cG (aH ?_))))
         exact⟨((d0.ak),d0.an,d0.ah,([]:List TF0),([]:List Bs)),(sI F15).symm,M1,(mR _),none,0,none,0,Sli.nil,Sli.nil,f.kp,N9⟩
       ·have U14:=ap dI B8
        refine RR (Ye f 1 λ_ f=>wp_ret (bV ?_))
        have F17:=cC F16 F1
        refine aS (aS (ao f rfl (Lk 2 (iL 2)) ?_))
        cases sI F17
        exact⟨_,rfl,M1,(mR _),(N2.dropN 1),rfl⟩
 ·rintro a_33 W10 ⟨G1,rfl,V1,J1,Z3,P3,Z4,P4,B10,B11,f,N10⟩
  refine aH (RR (ju S Value.bool f N10 kr kr rfl rfl rfl λo1 W11 N11 _ f=>Ye f 1 λ_ f=>ag ?_))
  obtain⟨jd,eW,F18⟩:=bS F1
  refine bj (λa_78 W16=>∃G4:Unit,jd=.nx G4∧∃V4:Mem,V1.le V4∧Frm 109 [(0,Pa ad0),(4,.map (some o1))] a_78∧Hp w0 V4 ((Ent.obj o1 (bh S Value.bool ([]:List (Bs×Bool))))::(oC Q1 #[iB d0.ab,bO G1.1,iL G1.2.1,S G1.2.2.1,sL Z3 G1.t3.1 P3,sL Z4 G1.t4 P4] 73)::H) W16) ?_ ?_
  ·refine wp_block (ag ?_)
   obtain⟨tt,pZ,F19⟩:=bS eW
   refine bj (λsi W12=>∃G2:Bool,tt=G2∧∃V2:Mem,V1.le V2∧Frm 109 [(0,Pa ad0),(4,.map (some o1)),(44,bO G2)] si∧Hp w0 V2 ((Ent.obj o1 (bh S Value.bool ([]:List (Bs×Bool))))::(oC Q1 #[iB d0.ab,bO G1.1,iL G1.2.1,S G1.2.2.1,sL Z3 G1.t3.1 P3,sL Z4 G1.t4 P4] 73)::H) W12) ?_ ?_
   ·refine aI (Y f 1 λ_ f=>Z f (Y35 (v:=bO G1.1) rfl (ad:=⟨Q1,1,none⟩) (N11.ownCell 1 rfl 1)) λ_ f=>Y f 1 λ_ f=>?_)
    rcases cE pZ with⟨B12,F20⟩|⟨B12,F21⟩
    ·have f:=f.st 47 (cB B12)
     refine Ye f 20 λ_ f=>?_
     exact⟨(true),(sI F20).symm,V1,(mR _),f.kp,N11⟩
    ·have f:=f.st 47 (cB B12)
     refine Y f 1 λ_ f=>Z f (Y35 (v:=iL G1.2.1) rfl (ad:=⟨Q1,2,none⟩) (N11.ownCell 1 rfl 2)) λ_ f=>Y f 3 λ_ f=>?_
     rcases cE F21 with⟨B13,F22⟩|⟨B13,F23⟩
     ·have U17: ¬ (G1.2.1=0):=(av dI).1 B13
      have f:=f.st 52 (cB B13)
      refine Ye f 15 λ_ f=>?_
      exact⟨(true),(sI F22).symm,V1,(mR _),f.kp,N11⟩
     ·have U18: ¬ (¬ (G1.2.1=0)):=ap (av dI) B13
      have f:=f.st 52 (cB B13)
      refine Y f 1 λ_ f=>Z f (Y35 (v:=S G1.2.2.1) rfl (ad:=⟨Q1,3,none⟩) (N11.ownCell 1 rfl 3)) λ_ f=>Z f (Y43 rfl (l:=G1.2.2.1) (m:=[])) λ_ f=>Y f 2 λ_ f=>?_
      rcases cE F23 with⟨B14,F24⟩|⟨B14,F25⟩
      ·have U19: ¬ (G1.2.2.1=[]):=(av dI).1 B14
       have f:=f.st 57 (cB B14)
       refine Ye f 10 λ_ f=>?_
       exact⟨(true),(sI F24).symm,V1,(mR _),f.kp,N11⟩
      ·have U20: ¬ (¬ (G1.2.2.1=[])):=ap (av dI) B14
       have f:=f.st 57 (cB B14)
       refine Y f 1 λ_ f=>Z f (Y35 (v:=sL Z3 G1.t3.1 P3) rfl (ad:=⟨Q1,4,none⟩) (N11.ownCell 1 rfl 4)) λ_ f=>Y f 2 λ_ f=>Z f (Y35 (v:=sL Z4 G1.t4 P4) rfl (ad:=⟨Q1,5,none⟩) (N11.ownCell 1 rfl 5)) λ_ f=>Y f 1 λ_ f=>?_
       obtain⟨O1,F26⟩:=nS F25
       refine Y f 1 λ_ f=>?_
       have f:=f.st 64 (iW O1)
       refine Ye f 3 λ_ f=>?_
       exact⟨(decide ((0:Int)<(((G1.t3.1.length:Nat):Int)+ ((G1.t4.length:Nat):Int)))),(sI F26).symm,V1,(mR _),f.kp,N11⟩
   ·rintro si W12 ⟨G2,hZ,V2,J2,f,N12⟩
    subst tt
    refine aH (RcF f F19 (λB15 F27=>?_) λB15 F29=>?_)
    ·refine RR (Ye f 1 λ_ f=>wp_ret (bV ?_))
     have F28:=cC F27 F18
     refine aS (aS (ao f rfl (Lk 2 (iL 2)) ?_))
     cases sI F28
     exact⟨_,rfl,V2,(J1.trans J2),(N12.dropN 2),rfl⟩
    ·refine ag ?_
     obtain⟨j_4,hj_4,F30⟩:=bS F29
     refine bj (λa_65 W13=>∃G3:Bool,j_4=G3∧∃V3:Mem,V2.le V3∧Frm 109 [(0,Pa ad0),(4,.map (some o1)),(67,bO G3)] a_65∧Hp w0 V3 ((Ent.obj o1 (bh S Value.bool ([]:List (Bs×Bool))))::(oC Q1 #[iB d0.ab,bO G1.1,iL G1.2.1,S G1.2.2.1,sL Z3 G1.t3.1 P3,sL Z4 G1.t4 P4] 73)::H) W13) ?_ ?_
     ·refine aI (Y f 3 λ_ f=>Y15 f N12 (fzu (J1.trans J2) q0) 2 rfl λ_ f=>Y f 2 λ_ f=>?_)
      rcases cE hj_4 with⟨B16,F31⟩|⟨B16,F32⟩
      ·have U23:=dI.1 B16
       have f:=f.st 73 (cB B16)
       refine Ye f 7 λ_ f=>?_
       exact⟨(true),(sI F31).symm,V2,(mR _),f.kp,N12⟩
      ·have U24:=ap dI B16
       have f:=f.st 73 (cB B16)
       refine Y f 3 λ_ f=>Y15 f N12 (fzu (J1.trans J2) q0) 2 rfl λ_ f=>Ye f 3 λ_ f=>?_
       exact⟨(decide ((9007199254740992:Int)<d0.an)),(sI F32).symm,V2,(mR _),f.kp,N12⟩
     ·rintro a_65 W13 ⟨G3,sH,V3,J3,f,N13⟩
      subst j_4
      refine aH (RcF f F30 (λB17 F33=>?_) λB17 F35=>?_)
      ·refine RR (Ye f 1 λ_ f=>wp_ret (bV ?_))
       have F34:=cC F33 F18
       refine aS (aS (ao f rfl (Lk 2 (iL 20)) ?_))
       cases sI F34
       exact⟨_,rfl,V3,((J1.trans J2).trans J3),(N13.dropN 2),rfl⟩
      ·refine RR (Y f 3 λ_ f=>Y15 f N13 (fzu ((J1.trans J2).trans J3) q0) 3 rfl λ_ f=>?_)
       obtain⟨X1,S1,F36⟩:=bS F35
       refine Y18 f N13 (kB n _ (GL.mono ((J1.trans J2).trans J3) hG) d0.ah X1 S1) λW14 N14 _ f=>Y f 2 λ_ f=>?_
       rcases cE F36 with⟨B18,F37⟩|⟨B18,F39⟩
       ·have U27: (X1)=false:=by simpa using B18
        have f:=f.st 87 (cB B18)
        refine Ye f 7 λ_ f=>Y8 f (RR (Ye f 1 λ_ f=>wp_ret (bV ?_)))
        have F38:=cC F37 F18
        refine aS (aS (ao f rfl (Lk 2 (iL 10)) ?_))
        cases sI F38
        exact⟨_,rfl,V3,((J1.trans J2).trans J3),(N14.dropN 2),rfl⟩
       ·have U28: (X1)=true:=by simpa using B18
        have f:=f.st 87 (cB B18)
        refine Y f 3 λ_ f=>Y15 f N14 (fzu ((J1.trans J2).trans J3) q0) 5 rfl λ_ f=>?_
        obtain⟨X2,S2,F40⟩:=bS F39
        refine Y18 f N14 (im n _ (GL.mono ((J1.trans J2).trans J3) hG) Z2 P2 d0.ae (B2.mono ((J1.trans J2).trans J3)) X2 S2) λW15 N15 _ f=>Ye f 2 λ_ f=>RcF f F40 (λB19 F41=>?_) λB19 F43=>?_
        ·refine RR (Ye f 1 λ_ f=>wp_ret (bV ?_))
         have F42:=cC F41 F18
         refine aS (aS (ao f rfl (Lk 2 (iL 10)) ?_))
         cases sI F42
         exact⟨_,rfl,V3,((J1.trans J2).trans J3),(N15.dropN 2),rfl⟩
        ·refine wp_skip (cG (aH ?_))
         exact⟨(),(sI F43).symm,V3,(J2.trans J3),f.kp,N15⟩
  ·rintro a_78 W16 ⟨G4,rfl,V4,J4,f,N16⟩
   refine aH (ag (RR (Y f 3 λ_ f=>Y15 f N16 (fzu (J1.trans J4) q0) 5 rfl λ_ f=>Ye f 2 λ_ f=>wp_block ?_)))
   obtain⟨Q2,bH,F44⟩:=bS F18
   refine wp_mono (Q:=λe a w=>(e=.ret∧(∃G5: (List (Bs×Bool)),Q2=.inl G5∧∃V6:Mem,V4.le V6∧Frm 109 [(2,iL 41)] a∧Hp w0 V6 ((Ent.obj o1 (bh S Value.bool G5))::(oC Q1 #[iB d0.ab,bO G1.1,iL G1.2.1,S G1.2.2.1,sL Z3 G1.t3.1 P3,sL Z4 G1.t4 P4] 73)::H) w))∨(e=.exit 2∧(∃G6: (List (Bs×Bool)),Q2=.inr G6∧∃V7:Mem,V4.le V7∧Frm 109 [] a∧Hp w0 V7 ((Ent.obj o1 (bh S Value.bool G6))::(oC Q1 #[iB d0.ab,bO G1.1,iL G1.2.1,S G1.2.2.1,sL Z3 G1.t3.1 P3,sL Z4 G1.t4 P4] 73)::H) w))) (bu (n:=109) (w0:=w0) (M:=V4) (λ (I1,K1)=>[(4,.map (some o1)),(97,sL Z2 d0.ae P2),(98,iL ((d0.ae.length:Nat):Int)),(99,iL K1.1)]) (λ (I1,K1)=>((Ent.obj o1 (bh S Value.bool K1.2))::(oC Q1 #[iB d0.ab,bO G1.1,iL G1.2.1,S G1.2.2.1,sL Z3 G1.t3.1 P3,sL Z4 G1.t4 P4] 73)::H)) (λ (I1,K1) MM=>aN (dj n d0) I1 K1=some Q2) (λ (I1,K1)=>I1) (n,((0:Int),([]:List (Bs×Bool)))) (f.kp) N16 bH ?_) ?_
   ·rintro⟨I1,K1⟩ V5 _ W17 J5 dc f N17
    have bI:=dc
    obtain⟨I2,jP,rfl,be,T1⟩:=aT bI
    unfold dj at be
    refine RR (Ye f 1 λ_ f=>ag (RcF f be (λB20 F45=>?_) λB20 F50=>?_))
    ·have U31:=dI.1 B20
     refine St (ag (wp_block (RR ?_)))
     obtain⟨X3,S3,F46⟩:=bS F45
     obtain⟨C1,cP,dS,-,D1,R1⟩:=Sli.at_ (B2.mono ((J1.trans J4).trans J5)) S3
     obtain rfl:cP=[S X3]:=D1
     refine Z f (Y34 dS rfl (len:=d0.ae.length) (cap:=P2) (k:=.i64) (i:=K1.1) (e:=9) (sz:=1) (aF S3) (aE S3)) λ_ f=>Y15 f N17 R1 0 rfl λ_ f=>Ye f 1 λ_ f=>ag (RR (Y f 2 λ_ f=>Z (v:=bO ((aG K1.2 X3).getD false)) f (pt (ek:=S) (ev:=Value.bool) (m:=K1.2) (k:=X3) (z:=false) (kt:=9) (et:=4) rfl kr kr kr (strKey kr) kr (N17.ownObj 0 rfl)) λ_ f=>eT (RcF f F46 (λB21 F47=>?_) λB21 F48=>?_)))
     ·refine RR (Ye f 1 λ_ f=>wp_ret (aS (bV (aS (aS ?_)))))
      cases sI F47
      exact .inl ⟨rfl,K1.2,(sI T1).symm,V5,J5,f.kp,N17⟩
     ·refine St (aI (Y f 2 λ_ f=>my (ek:=S) (ev:=Value.bool) (m:=K1.2) (k:=X3) (v:=(true)) (kt:=9) (et:=4) f N17 kr kr rfl (.inl rfl) kr kr kr kr (strKey kr) λW18 N18 _ f=>aA rfl (cG (aH (aI ?_)))))
      obtain⟨O2,F49⟩:=nS F48
      refine Y f 1 λ_ f=>?_
      have f:=f.st 108 (iW O2)
      refine Ye f 1 λ_ f=>?_
      cases sI F49
      exact⟨⟨I2,(K1.1+1,de K1.2 X3 (true))⟩,Nat.lt_succ_self _,V5,J5,T1,f.kp,N18⟩
    ·have U34:=ap dI B20
     refine wp_exit (co (co ?_))
     cases sI F50
     exact .inr ⟨rfl,K1.2,(sI T1).symm,V5,J5,f.kp,N17⟩
   ·rintro _ _ W21 (⟨rfl,G5,rfl,V6,J6,f,N19⟩|⟨rfl,G6,rfl,V7,J7,f,N20⟩)
    ·refine bV (aS (ao f rfl (Lk 2 (iL 41)) ?_))
     cases sI F44
     exact⟨_,rfl,V6,((J1.trans J4).trans J6),(N19.dropN 2),rfl⟩
    ·refine iq (aH (RR (Ye f 1 λ_ f=>wp_ret (ao f rfl (Lk 2 (iL 0)) ?_))))
     cases sI F44
     exact⟨_,rfl,V7,((J1.trans J4).trans J7),(N20.dropN 2),rfl⟩
def gj (n:Nat) (K1:Int) (X2:TF0):Option (Lp Int (Int×Int)):=
    (kC n X2).bind λX3=>
    bif(!(decide (X3=0))) then
     (some (.br (K1,X3)))
    else
     aZ (inR .i64 (K1+1))<|
     some (.nx (K1+1))
def gK (n:Nat) (d0:TF0):Option Int:=
 (oc n d0 (24:Int)).bind λX1=>
 bif(decide ((24:Int)<X1)) then
  (some ((30:Int)))
 else
  aZ ((cb d0).length≤9223372036854775806)<|
  (lx (gj n) (cb d0) (0:Int)).bind λcX=>
  (match cX with
  |.nx K2=>bif(decide ((4096:Int)<K2)) then
   (some ((3:Int)))
   else
    some ((0:Int))
  |.br Q5=>some (Q5.2))
set_option maxRecDepth 20000 in
theorem jp (n:Nat) (M:Mem) (hG:GL M) (c0:Lv) (d0:TF0) (h0:Rep M (ay d0) c0) (r:Int) (hF:gK n d0=some r):Ok Tryz.prog M 78 [.agg c0.toArray] (λ_ v=>v=iL r):=by
 unfold gK at hF
 intro M1 hM0 w0 H w p0
 replace hG:=GL.mono hM0 hG
 replace h0:=Rep.mono hM0 _ _ h0
 obtain⟨Z1,P1,Z2,P2,rfl,B1,B2⟩:=TF0.opn h0
 refine R_enterM 19 Tryz.func78 rfl rfl (by simp) λa0 f0=>RR (Y13 (cs:=(aTF0 d0 Z1 P1 Z2 P2)) (T:=73) f0 p0 λQ1 V1 W1 J1 R1 N1 _ f=>?_)
 have R2:=bR R1
 refine Y12 f N1 (.cells #[iL 0] 35 (0,0)) λQ2 W2 N2 _ f=>eT (ag (RR ?_))
 obtain⟨X1,S1,F1⟩:=bS hF
 refine Y18 f N2 (sp n _ (⟨Q1,0,none⟩) (lTF0 d0 Z1 P1 Z2 P2) d0 (TF0.shutx (x:=d0) (B1.mono J1) (B2.mono J1)) (gE (R2) 0 rfl) (24:Int) X1 S1) λW3 N3 _ f=>Ye f 1 λ_ f=>RcF f F1 (λB3 F2=>?_) λB3 F3=>?_
 ·have U1:=dI.1 B3
  refine RR (Y28 f N3 0 rfl rfl (b:=Q2) (j:=0) (v:=iL 30) rfl (by exact rfl) (by simp) (by simp) ((oC Q2 #[iL 30] 35)::H) rfl λW4 N4 _ f=>Er (aS (E_M0 f (V_rv1 rfl (Y9 (v:=iL 30) (ad:=⟨Q2,0,none⟩) f (N4.ownCell 0 rfl 0)) ?_))))
  cases sI F2
  exact⟨_,rfl,V1,J1,(N4.dropN 1),rfl⟩
 ·have U2:=ap dI B3
  refine St (RR (Y12 f N3 (.cells #[iL 0] 3 (0,0)) λQ3 W5 N5 _ f=>Y28 f N5 0 rfl rfl (b:=Q3) (j:=0) (v:=iL 0) rfl (by exact rfl) (by simp) (by simp) ((oC Q3 #[iL 0] 3)::(oC Q2 #[iL 0] 35)::H) rfl λW6 N6 _ f=>eT (ag (RR (Z f (Y36 (cs:=(lTF0 d0 Z1 P1 Z2 P2)) rfl (ad:=⟨Q1,0,none⟩) (λj v h=>N6.cell (R2 j v h))) λ_ f=>?_)))))
  obtain⟨O1,F4⟩:=nS F3
  refine Y16 f N6 (walk_ok d0 O1 _ (lTF0 d0 Z1 P1 Z2 P2) (TF0.shutx (x:=d0) (B1.mono J1) (B2.mono J1))) λ_ V2 W7 J2 N7 jO a_9 f=>?_
  obtain⟨fv_1,cp_1,rfl,hit_1⟩:=jO
  refine eT (wp_block ?_)
  have f:Frm 19 [(2,pP Q2),(3,pP Q3),(9,.func (.func fv_1) #[] cp_1.toArray)] a_9:=f.kp
  obtain⟨cX,bH,F5⟩:=bS F4
  refine R_range (σ:=Int) (β:=Int×Int) (vals:=valsV) (Y:=(gj n)) (E0:=[oC Q3 #[iL 0] 3,oC Q2 #[iL 0] 35]) (H:=H) (w0:=w0) (M:=V2) (f:=fv_1) (caps:=cp_1) f N7 kr kr kr hit_1.1 (λ (K1:Int) M' E1=>E1=[oC Q3 #[iL K1] 3,oC Q2 #[iL 0] 35]) (λ (G1:Int×Int) M' E1=>E1=[oC Q3 #[iL G1.1] 3,oC Q2 #[iL G1.2] 35]) (λ (_:Int×Int)=>Jmp.ret) (0:Int) cX rfl (λs_ M_ M2_ E_ hM h=>h) (λs_ M_ M2_ E_ hM h=>h) (λM_ x_ vs_ h=>by obtain⟨c_,h,_⟩:=h;exact⟨_,h⟩) (hit_1.2 _ _ _ _ _ bH) ?_ ?_ ?_
  ·rintro K1 X2 jP be l_1 w0 V3 E_1 H W8 _ v_1 J3 rfl ⟨cc_1,H1,D1⟩ N8 f
   obtain rfl:v_1=.agg cc_1.toArray:=by simpa using H1
   unfold gj at be
   obtain⟨Z3,P3,Z4,P4,rfl,B4,B5⟩:=TF0.opn D1
   refine qX (ed F_out) kr (Y12 f N8 (.cells #[iB 0,bO false,iL 0,S [],Sn,Sn] 73 (0,0)) λQ4 W9 N9 _ f=>Ys (lTF0 X2 Z3 P3 Z4 P4) (aTF0 X2 Z3 P3 Z4 P4) f N9 rfl rfl λW10 N10 _ f=>eT (⟨V3,[Ent.obj Q4 (.cells (aTF0 X2 Z3 P3 Z4 P4) 73 (0,0)),oC Q3 #[iL K1] 3,oC Q2 #[iL 0] 35],(mR _),N10,λH W11 N11=>?_⟩))
   refine RI_block (RI_seq (RI_seq (qX (ed (ed (ns (RB_out)))) kr ?_)))
   obtain⟨V4,J4,N12,R3⟩:=N11.fzOwn
   obtain⟨X3,S2,F6⟩:=bS be
   refine Y18 f N12 (sq n _ (GL.mono (((J1.trans J2).trans J3).trans J4) hG) (⟨Q4,0,none⟩) (lTF0 X2 Z3 P3 Z4 P4) X2 (TF0.shutx (x:=X2) (B4.mono J4) (B5.mono J4)) (gE (R3) 0 rfl) X3 S2) λW12 N13 _ f=>Ye f 1 λ_ f=>RI_seq (qX (ed (ed (ns (RB_out)))) kr (Ye f 2 λ_ f=>RI_cond f (b:= !(decide (X3=0))) kr kr (λB6=>?_) λB6=>?_))
   ·have U3: ¬ (X3=0):=(av dI).1 B6
    have F7:=cnd_t B6 F6
    refine RI_seq (qX (ed (ed (ns (RB_out)))) kr (Y f 1 λ_ f=>Y28 f N13 1 rfl rfl (b:=Q2) (j:=0) (v:=iL X3) rfl (by exact rfl) (by simp) (by simp) ((oC Q3 #[iL K1] 3)::(oC Q2 #[iL X3] 35)::H) rfl λW13 N14 _ f=>eT (RI_ret (aS (bV ?_)))))
    cases sI F7
    exact RB_x rfl ⟨V4,[oC Q3 #[iL K1] 3,oC Q2 #[iL X3] 35],J4,N14,rfl⟩
   ·have U4: ¬ (¬ (X3=0)):=ap (av dI) B6
    have F8:=cnd_f B6 F6
    refine RI_skip (aH (qX (ns (RB_out)) kr (Z f (Y35 (v:=iL K1) rfl (ad:=⟨Q3,0,none⟩) (N13.ownCell 0 rfl 0)) λ_ f=>?_)))
    obtain⟨O2,F9⟩:=nS F8
    refine Y f 1 λ_ f=>?_
    have f:=f.st 16 (iW O2)
    refine Y28 f N13 0 rfl rfl (b:=Q3) (j:=0) (v:=iL (K1+1)) rfl (by exact rfl) (by simp) (by simp) ((oC Q3 #[iL (K1+1)] 3)::(oC Q2 #[iL 0] 35)::H) rfl λW14 N15 _ f=>aA rfl (cG ?_)
    cases sI F9
    exact RB_n ⟨V4,[oC Q3 #[iL (K1+1)] 3,oC Q2 #[iL 0] 35],J4,N15,rfl⟩
  ·rintro K2 rfl l_2 D_1 rr_1 V5 E_2 W15 _ J5 rfl N16 f
   replace N16:Hp w0 V5 ((Ent.obj D_1 (.deferred (some [])))::(oC Q3 #[iL K2] 3)::(oC Q2 #[iL 0] 35)::H) W15:=N16.drop
   replace F5: (_:Option _)=some _:=F5
   refine cG (aH (ag (RR (Z f (Y35 (v:=iL K2) rfl (ad:=⟨Q3,0,none⟩) (N16.ownCell 1 rfl 0)) λ_ f=>Ye f 1 λ_ f=>RcF f F5 (λB7 F10=>?_) λB7 F11=>?_))))
   ·have U5:=dI.1 B7
    refine RR (Y28 f N16 2 rfl rfl (b:=Q2) (j:=0) (v:=iL 3) rfl (by exact rfl) (by simp) (by simp) ((Ent.obj D_1 (.deferred (some [])))::(oC Q3 #[iL K2] 3)::(oC Q2 #[iL 3] 35)::H) rfl λW16 N17 _ f=>Er (aS (E_M1 f N17 λW17 N18=>V_rv1 rfl (Y9 (v:=iL 3) (ad:=⟨Q2,0,none⟩) f (N18.ownCell 1 rfl 0)) ?_)))
    cases sI F10
    exact⟨_,rfl,V5,((J1.trans J2).trans J5),(N18.dropN 2),rfl⟩
   ·have U6:=ap dI B7
    refine St (RR (Y28 f N16 2 rfl rfl (b:=Q2) (j:=0) (v:=iL 0) rfl (by exact rfl) (by simp) (by simp) ((Ent.obj D_1 (.deferred (some [])))::(oC Q3 #[iL K2] 3)::(oC Q2 #[iL 0] 35)::H) rfl λW18 N19 _ f=>Er (E_M1 f N19 λW19 N20=>V_rv1 rfl (Y9 (v:=iL 0) (ad:=⟨Q2,0,none⟩) f (N20.ownCell 1 rfl 0)) ?_)))
    cases sI F11
    exact⟨_,rfl,V5,((J1.trans J2).trans J5),(N20.dropN 2),rfl⟩
  ·rintro Q5 rfl l_3 D_2 rr_2 V6 E_3 W20 _ J6 S3 N21 f
   obtain rfl:=S3
   replace N21:Hp w0 V6 ((Ent.obj D_2 (.deferred (some [])))::(oC Q3 #[iL Q5.1] 3)::(oC Q2 #[iL Q5.2] 35)::H) W20:=N21.drop
   refine bV (aS (E_M1 f N21 λW21 N22=>V_rv1 rfl (Y9 (v:=iL Q5.2) (ad:=⟨Q2,0,none⟩) f (N22.ownCell 1 rfl 0)) ?_))
   cases sI F5
   exact⟨_,rfl,V6,((J1.trans J2).trans J6),(N22.dropN 2),rfl⟩
end Go.Proofs.YtkhdpnamfndonaaGreatDoor
end
section
namespace Go.Proofs
open Go Go.Shelf
def Tryz.laysS_ren:Go.Shelf.Ren:=⟨λ |6=>128|14=>133|15=>134|20=>136|21=>137|22=>138|23=>139|24=>140|25=>141|26=>142|27=>143|28=>144|29=>145|46=>146|47=>147|48=>148|49=>149|50=>150|57=>151|n=>n,λ |22=>50|24=>3|25=>175|39=>170|45=>183|46=>184|50=>122|53=>190|55=>177|66=>192|70=>196|76=>198|77=>159|n=>n,λ |n=>n⟩
theorem Tryz.laysS:Go.Proofs.SlLaysF.n6 Tryz.prog Tryz.laysS_ren:={
 mixed:=by kernel_rfl
 f6:=⟨ "slices.SortFunc[[]int,int]",by decide,Tryz.func128.trans (congrArg some kr)⟩
 f14:=⟨ "slices.pdqsortCmpFunc[int]",by decide,Tryz.func133.trans (congrArg some kr)⟩
 f15:=Tryz.func134.trans (congrArg some kr)
 f20:=⟨ "slices.insertionSortCmpFunc[int]",by decide,Tryz.func136.trans (congrArg some kr)⟩
 f21:=⟨ "slices.heapSortCmpFunc[int]",by decide,Tryz.func137.trans (congrArg some kr)⟩
 f22:=⟨ "slices.breakPatternsCmpFunc[int]",by decide,Tryz.func138.trans (congrArg some kr)⟩
 f23:=⟨ "slices.choosePivotCmpFunc[int]",by decide,Tryz.func139.trans (congrArg some kr)⟩
 f24:=⟨ "slices.reverseRangeCmpFunc[int]",by decide,Tryz.func140.trans (congrArg some kr)⟩
 f25:=⟨ "slices.partialInsertionSortCmpFunc[int]",by decide,Tryz.func141.trans (congrArg some kr)⟩
 f26:=⟨ "slices.partitionEqualCmpFunc[int]",by decide,Tryz.func142.trans (congrArg some kr)⟩
 f27:=⟨ "slices.partitionCmpFunc[int]",by decide,Tryz.func143.trans (congrArg some kr)⟩
 f28:=Tryz.func144.trans (congrArg some kr)
 f29:=Tryz.func145.trans (congrArg some kr)
 f46:=⟨ "slices.siftDownCmpFunc[int]",by decide,Tryz.func146.trans (congrArg some kr)⟩
 f47:=Tryz.func147.trans (congrArg some kr)
 f48:=Tryz.func148.trans (congrArg some kr)
 f49:=⟨ "slices.medianAdjacentCmpFunc[int]",by decide,Tryz.func149.trans (congrArg some kr)⟩
 f50:=⟨ "slices.medianCmpFunc[int]",by decide,Tryz.func150.trans (congrArg some kr)⟩
 f57:=⟨ "slices.order2CmpFunc[int]",by decide,Tryz.func151.trans (congrArg some kr)⟩
 t0:=Tryz.underlying0
 a0:=Tryz.isAgg0
 z0:=Tryz.sizeOf0
 v0:=Tryz.zeroValue0
 t3:=Tryz.underlying3
 a3:=Tryz.isAgg3
 z3:=Tryz.sizeOf3
 v3:=Tryz.zeroValue3
 t4:=Tryz.underlying4
 a4:=Tryz.isAgg4
 z4:=Tryz.sizeOf4
 v4:=Tryz.zeroValue4
 t5:=Tryz.underlying5
 a5:=Tryz.isAgg5
 z5:=Tryz.sizeOf5
 v5:=Tryz.zeroValue5
 t9:=Tryz.underlying9
 a9:=Tryz.isAgg9
 z9:=Tryz.sizeOf9
 v9:=Tryz.zeroValue9
 t22:=Tryz.underlying50
 a22:=Tryz.isAgg50
 z22:=Tryz.sizeOf50
 v22:=Tryz.zeroValue50
 a24:=Tryz.isAgg3
 z24:=Tryz.sizeOf3
 t25:=Tryz.underlying175
 a25:=Tryz.isAgg175
 z25:=Tryz.sizeOf175
 v25:=Tryz.zeroValue175
 t39:=Tryz.underlying170
 a39:=Tryz.isAgg170
 z39:=Tryz.sizeOf170
 v39:=Tryz.zeroValue170
 t45:=Tryz.underlying183
 a45:=Tryz.isAgg183
 z45:=Tryz.sizeOf183
 v45:=Tryz.zeroValue183
 t46:=Tryz.underlying184
 a46:=Tryz.isAgg184
 z46:=Tryz.sizeOf184
 v46:=Tryz.zeroValue184
 t50:=Tryz.underlying122
 a50:=Tryz.isAgg122
 z50:=Tryz.sizeOf122
 v50:=Tryz.zeroValue122
 t53:=Tryz.underlying190
 a53:=Tryz.isAgg190
 z53:=Tryz.sizeOf190
 v53:=Tryz.zeroValue190
 t55:=Tryz.underlying177
 a55:=Tryz.isAgg177
 z55:=Tryz.sizeOf177
 v55:=Tryz.zeroValue177
 t66:=Tryz.underlying192
 a66:=Tryz.isAgg192
 z66:=Tryz.sizeOf192
 v66:=Tryz.zeroValue192
 t70:=Tryz.underlying196
 a70:=Tryz.isAgg196
 z70:=Tryz.sizeOf196
 v70:=Tryz.zeroValue196
 t76:=Tryz.underlying198
 a76:=Tryz.isAgg198
 z76:=Tryz.sizeOf198
 v76:=Tryz.zeroValue198
 t77:=Tryz.underlying159
 a77:=Tryz.isAgg159
 z77:=Tryz.sizeOf159
 v77:=Tryz.zeroValue159}
end Go.Proofs
end
section
namespace Go.Proofs.YtkhdpnamfndonaaGreatDoor
open Go Go.Vc Go.RowKit Go.Sort
def keyLe (keys:List Bs) (x y:Int):Bool:= !(decide (Lib.compareBytes (keys.getD y.toNat []) (keys.getD x.toNat [])<0))
theorem ji {keys:List Bs} {x y:Int}:keyLe keys x y=true↔Lib.compareBytes (keys.getD x.toNat []) (keys.getD y.toNat [])≤0:=by
 have:=iu (keys.getD x.toNat []) (keys.getD y.toNat [])
 simp only[keyLe,Bool.not_eq_true',decide_eq_false_iff_not]
 omega
def ins (le:Int→Int→Bool) (x:Int):List Int→List Int
 |[]=>[x]
 |y::r=>bif le x y then x::y::r else y::ins le x r
def isort (le:Int→Int→Bool):List Int→List Int
 |[]=>[]
 |x::r=>ins le x (isort le r)
theorem rh (le:Int→Int→Bool) (x:Int): ∀l,(ins le x l).Perm (x::l)
 |[]=>List.Perm.refl _
 |y::r=>by
  unfold ins
  cases le x y with
  |true=>exact List.Perm.refl _
  |false=>exact((rh le x r).cons y).trans (List.Perm.swap x y r)
theorem lT (le:Int→Int→Bool): ∀l,(isort le l).Perm l
 |[]=>List.Perm.refl _
 |x::r=>(rh le x _).trans ((lT le r).cons x)
theorem ri {le:Int→Int→Bool} (ht: ∀a b c,le a b=true→le b c=true→le a c=true) (hn: ∀a b,le a b=true∨le b a=true) (x:Int): ∀l,l.Pairwise (λa b=>le a b=true)→(ins le x l).Pairwise (λa b=>le a b=true)
 |[],_=>by simp[ins]
 |y::r,h=>by
  obtain⟨h1,h2⟩:=List.pairwise_cons.1 h
  unfold ins
  cases hxy:le x y with
  |true=>exact List.pairwise_cons.2 ⟨λz hz=>by
   rcases List.mem_cons.1 hz with rfl|hz
   ·exact hxy
   ·exact ht _ _ _ hxy (h1 z hz),h⟩
  |false=>
   refine List.pairwise_cons.2 ⟨λz hz=>?_,ri ht hn x r h2⟩
   rcases List.mem_cons.1 ((rh le x r).mem_iff.1 hz) with rfl|hz
   ·exact(hn z y).resolve_left (by simp[hxy])
   ·exact h1 z hz
theorem oQ {le:Int→Int→Bool} (ht: ∀a b c,le a b=true→le b c=true→le a c=true) (hn: ∀a b,le a b=true∨le b a=true): ∀l,(isort le l).Pairwise (λa b=>le a b=true)
 |[]=>List.Pairwise.nil
 |x::r=>ri ht hn x _ (oQ ht hn r)
theorem qf (keys:List Bs) (a b c:Int) (h1:keyLe keys a b=true) (h2:keyLe keys b c=true):keyLe keys a c=true:=
 ji.2 (lz _ _ _ (ji.1 h1) (ji.1 h2)).1
theorem qg (keys:List Bs) (a b:Int):keyLe keys a b=true∨keyLe keys b a=true:=by
 rw[ji,ji]
 have:=iu (keys.getD a.toNat []) (keys.getD b.toNat [])
 omega
theorem sort_eq {keys:List Bs} {d:List Int} (hnd:keys.Nodup) (hin: ∀i∈d,0≤i∧i<(keys.length:Int)):d.mergeSort (keyLe keys)=isort (keyLe keys) d:=by
 refine List.Perm.eq_of_pairwise (le:=λa b=>keyLe keys a b=true) (λa b ha hb h1 h2=>?_) (List.pairwise_mergeSort (qf keys) (λa b=>by simpa using qg keys a b) d) (oQ (qf keys) (qg keys) d) ((List.mergeSort_perm d _).trans (lT _ d).symm)
 have ia:=hin a ((List.mergeSort_perm d _).mem_iff.1 ha)
 have ib:=hin b ((lT _ d).mem_iff.1 hb)
 have e1:=ji.1 h1
 have e2:=ji.1 h2
 have e3:=iu (keys.getD a.toNat []) (keys.getD b.toNat [])
 have e4:=rd _ _ (by omega:Lib.compareBytes (keys.getD a.toNat []) (keys.getD b.toNat [])=0)
 have la:a.toNat<keys.length:=by omega
 have lb:b.toNat<keys.length:=by omega
 have e5:keys[a.toNat]=keys[b.toNat]:=by simpa [la,lb] using e4
 have:=(List.getElem_inj hnd).1 e5
 omega
def lU (_:Nat) (v:TF0) (d:List Int):Option (List Int):=
 aZ (v.ae.Nodup∧∀i∈d,0≤i∧i<(v.ae.length:Int)) (aZ (d.length<4611686018427387904) (some (isort (keyLe v.ae) d)))
theorem finOf {n:Nat}: ∀ (d:List Int),(∀i∈d,0≤i∧i<(n:Int))→∃l:List (Fin n),l.map (λx=>(x.val:Int))=d
 |[],_=>⟨[],rfl⟩
 |i::r,h=>by
  obtain⟨l,hl⟩:=finOf r λj hj=>h j (List.mem_cons_of_mem _ hj)
  have hi:=h i List.mem_cons_self
  refine⟨⟨i.toNat,by omega⟩::l,?_⟩
  simp[hl]
  omega
theorem keys_swo {n:Nat} (k:Fin n→Bs):SWO (ltOf λx y:Fin n=>Lib.compareBytes (k x) (k y)):=by
 refine⟨λx=>by simp[ltOf,nt],λx y z h1 h2=>?_,λx y z h1 h2=>?_⟩
 ·simp only[ltOf,decide_eq_true_eq] at*
  exact(lz _ _ _ (by omega) (by omega)).2 (.inl h1)
 ·simp only[ltOf,decide_eq_false_iff_not] at*
  have a1:=iu (k x) (k y)
  have a2:=iu (k y) (k z)
  have a3:=iu (k x) (k z)
  have:=(lz (k z) (k y) (k x) (by omega) (by omega)).1
  omega
theorem sortKeys_ok (n : Nat) {M : Mem} {bA ad0 : Addr} {v : TF0} {c0 : List Value} (h0 : Rep M (ay v) c0) (q0 : ∀ j u, c0[j]? = some u → M.cell? (ad0.add j) = some u)
  (hb : M.cell? bA = some (.pointer (some ad0))) (u : Value) (d : List Int) (cs : List Value) (hr : aa M (d.map (Dat.int .i64)) cs) (r : List Int) (hF : lU n v d = some r) :
  OkH Tryz.prog M [.row 3 1 u d.length cs] 128 [u, .func (.func 129) #[] #[.pointer (some bA)]] (fun M' E' z => ∃ cs', z = .tuple #[] ∧ E' = [.row 3 1 u r.length cs'] ∧ aa M' (r.map (Dat.int .i64)) cs' ∧ r.length = d.length) := by
 unfold lU at hF
 obtain ⟨⟨hnd, hin⟩, hF⟩ := jf hF
 obtain ⟨hlen, hF⟩ := jf hF
 obtain rfl := Option.some.inj hF
 rw [← sort_eq hnd hin]
 obtain rfl := repInts hr
 clear hF
 obtain ⟨zs, rfl⟩ := finOf d hin
 clear hr hin
 intro M2 hM w0 H w hp
 have hmap : (zs.mergeSort fun x y => !(ltOf (fun x y : Fin v.ae.length => Lib.compareBytes v.ae[x] v.ae[y])) y x).map (fun x => (x.val : Int)) = (zs.map (fun x => (x.val : Int))).mergeSort (keyLe v.ae) := by
  refine List.map_mergeSort fun a _ b _ => ?_
  simp [keyLe, ltOf]
 rw [← hmap]
 have hls : (zs.mergeSort fun x y => !(ltOf (fun x y : Fin v.ae.length => Lib.compareBytes v.ae[x] v.ae[y])) y x).length = zs.length := List.length_mergeSort _
 clear hmap
 by_cases hd : zs = []
 ·subst hd
  have key : ∀ p cap, u = .slice p 0 cap → Calls Tryz.prog 128 [u, .func (.func 129) #[] #[.pointer (some bA)]].toArray w fun e w' => e = .returned (.tuple #[]) ∧ w' = w := fun p cap e => by
   subst e
   exact AnyF.slices_SortFunc_none { Tryz.laysS with } p cap _ w
  have hv : ∃ p cap, u = .slice p 0 cap := by
   rcases hp.rowObj with ⟨h1, _⟩ | ⟨g, cap, cur, h1, _⟩
   ·exact ⟨_, _, h1⟩
   ·exact ⟨_, _, h1⟩
  obtain ⟨p, cap, hv⟩ := hv
  refine (key p cap hv).mono fun e w' ⟨he, hw⟩ => ⟨_, he, M2, _, Mem.le_refl _, ?_, [], rfl, rfl, ?_, by simp⟩
  ·subst hw
   simpa using hp
  ·simp [aa]
 ·have hpos : 0 < v.ae.length := by
   cases zs with
   | nil => exact absurd rfl hd
   | cons x _ => exact Nat.lt_of_le_of_lt (Nat.zero_le _) x.isLt
  haveI : Inhabited (Fin v.ae.length) := ⟨⟨0, hpos⟩⟩
  rcases hp.rowObj with ⟨h1, h2, h3, h4⟩ | ⟨g, cap, cur, h1, h2, h3, h4, h5, h6, h7⟩
  ·simp at h2
   exact absurd h2 hd
  ·simp only [List.length_map, List.map_map] at h1 h2 h4 h5 h6
   subst h1
   obtain ⟨enc, henc⟩ : ∃ enc : Fin v.ae.length → Value, enc = fun x => .int .i64 (x.val : Int) := ⟨_, rfl⟩
   have he0 : (Value.int IntKind.i64 ∘ fun x : Fin v.ae.length => (x.val : Int)) = enc := by rw [henc]; rfl
   rw [he0] at h5
   obtain ⟨cf, hcf⟩ : ∃ cf : Fin v.ae.length → Fin v.ae.length → Int, cf = fun x y => Lib.compareBytes v.ae[x] v.ae[y] := ⟨_, rfl⟩
   have hO : SWO (ltOf cf) := by rw [hcf]; exact keys_swo fun x => v.ae[x]
   have hT : ∀ x y, (ltOf cf) x y = false → (ltOf cf) y x = false → x = y := fun x y g1 g2 => by
    rw [hcf] at g1 g2
    simp only [ltOf, decide_eq_false_iff_not] at g1 g2
    have a1 := iu v.ae[x] v.ae[y]
    have := rd _ _ (by omega : Lib.compareBytes v.ae[x] v.ae[y] = 0)
    exact Fin.ext ((List.getElem_inj hnd).1 this)
   have hcell : ∀ j, j < zs.length → cur[j]? = (zs.map enc)[j]? := fun j hj => by
    rw [← h5, List.getElem?_take_of_lt (by omega), Array.getElem?_toList]
   have hH : Holds enc w g 0 zs.toArray := fun j hj => by
    have hj' : j < zs.length := by simpa using hj
    refine ⟨?_, ?_⟩
    ·rw [Nat.zero_add, h7.ownCell 0 rfl, hcell j hj']
     simp [hj']
    ·rw [Nat.zero_add]
     exact h7.ownFrozen 0 rfl j (by omega)
   have hg : g < w.heap.size := gV (h7.own _ List.mem_cons_self).2
   have eg : ∀ args w, (callFunc 129 args).run Tryz.prog w = .ok (.enter 129 args) w := Go.Proofs.enters_of Tryz.func129 (by kernel_rfl) rfl
   have hget : ∀ x : Fin v.ae.length, aR v.ae (x.val : Int) = some v.ae[x] := fun x => by simp [aR]
   have hcmp : CmpLays1 Tryz.prog 129 #[.pointer (some bA)] enc cf g 0 zs.toArray.size w := by
    intro m os dk hs x y
    have hpW : Hp w0 M2 (.obj g (.cells (putCells enc 0 dk cur) 3 (0, 0)) :: H) (sortWorld enc w g 0 m dk os) := ((h7.sameHeap rfl rfl rfl rfl : Hp w0 M2 _ (Sort.ahead w m)).mapCells (putCells enc 0 dk)).grow_ os
    have hc := order1_calls hpW (Rep.mono hM _ _ h0) (fun j u h => hM.cell (q0 j u h)) (hM.cell hb) (x.val : Int) (y.val : Int) v.ae[x] v.ae[y] (hget x) (hget y)
    have ea : (#[enc x, enc y] ++ #[.pointer (some bA)] : Array Value) = [.int .i64 (x.val : Int), .int .i64 (y.val : Int), .pointer (some bA)].toArray := by rw [henc]; rfl
    rw [ea]
    exact hc.mono fun e w' ⟨he, q, hw⟩ => ⟨by rw [he, hcf], q, #[], by rw [hw, grow_empty]⟩
   have hcall : Calls Tryz.prog 128 #[.slice (some ⟨g, 0, none⟩) zs.length cap, .func (.func 129) #[] #[.pointer (some bA)]] w fun e w' =>
     e = .returned (.tuple #[]) ∧ ∃ n os, w' = sortWorld enc w g 0 n (zs.mergeSort fun x y => !(ltOf cf) y x).toArray os :=
    Any.slices_SortFunc_total Tryz.laysS enc (fun x => by rw [henc]; rfl) cf hO 129 #[.pointer (some bA)] g 0 cap zs.toArray w eg hcmp hH hg (by simpa using hlen) hT
   simp only [List.length_map]
   rw [hcf] at hcall
   refine hcall.mono fun e w' ⟨he, k, os, hw⟩ => ⟨_, he, M2, _, Mem.le_refl _, ?_, _, rfl, rfl, intsRep _, by simp⟩
   subst hw
   have h9 := ((h7.sameHeap rfl rfl rfl rfl : Hp w0 M2 _ (Sort.ahead w k)).mapCells (putCells enc 0 (zs.mergeSort fun x y => !(ltOf (fun x y : Fin v.ae.length => Lib.compareBytes v.ae[x] v.ae[y])) y x).toArray)).grow_ os
   have hcs : cap ≤ cur.size := by have := h4.1; omega
   have hlen' : zs.length ≤ cap := h2
   rw [hls]
   refine h9.objRow h2 h3 (by simpa [putCells] using h4) ?_ (by simp)
   rw [List.map_map, he0]
   generalize (zs.mergeSort fun x y => !(ltOf (fun x y : Fin v.ae.length => Lib.compareBytes v.ae[x] v.ae[y])) y x) = ys at hls ⊢
   apply List.ext_getElem?
   intro j
   by_cases hj : j < zs.length
   ·rw [List.getElem?_take_of_lt (by omega), Array.getElem?_toList]
    have hjc : j < cur.size := by omega
    have hjy : j < ys.length := by omega
    simp [putCells, hjc, hjy]
   ·rw [List.getElem?_eq_none (by simp; omega), List.getElem?_eq_none (by simp; omega)]
end Go.Proofs.YtkhdpnamfndonaaGreatDoor
end
