/-
  Texts of this claim, packed (what nothing names is left out): VkS, Ty, Q1, Q2a, WalkIt, Vp, Vu, Q2d, Q2e, Q3a, Shelf, Lay, Hd, WalkIt2, Q4b. Own work, partly printed by own programs. No condition.
-/
import Derived.Test.YtkopljikappieaaGreatDoorPkL1
import Derived.Test.YtkopljikappieaaGreatDoorRows
import Derived.Shelf.Abstract
import Derived.Lib.MapLaws
import Derived.Lib.ValidLaws
import Derived.Shelf.Small.Wraps
import Derived.Shelf.Strings.Search1
import Derived.Shelf.Strings.Search2
import Derived.Shelf.Strings.Cut
import Derived.Shelf.LaysM
import Derived.Shelf.Strings.Shaped
import Derived.Shelf.Sort.Plain
import Derived.Shelf.Strings.Prefix
import Derived.Shelf.Slices.In.SortNone
import Derived.Test.YtkopljikappieaaGreatDoorProg
import Derived.Shelf.Lays
import Derived.Shelf.Unicode.ValidAny
set_option linter.unusedVariables false
set_option linter.unusedSimpArgs false
set_option maxHeartbeats 2000000
section
namespace Go.Vc
open Go Go.RowKit
variable {dd:List Deferred}
abbrev Frm.fr {n:Nat} {L:Fr} {a:Act} (_:Frm n L a dd):Fr:=L
abbrev Hp.en {w0 w:World} {M:Mem} {H:List Ent} (_:Hp w0 M H w):List Ent:=H
def kpL (ks:List Nat) (L:Fr):Fr:=ks.map λk=>(k,(look L k).getD undef)
def selE (is:List Nat) (m:Nat) (H:List Ent):List Ent:=is.filterMap (λi=>H[i]?)++H.drop m
section
variable {P:Program} {n:Nat} {Q:Exit→Act→World→Prop} {a:Act} {w0 w:World} {M:Mem}
theorem aZ {σ:Type} {c:Code} (J:Nat×σ→Fr×List Ent× (Mem→Prop)) (x0:Nat×σ) (hf:Frm n (J x0).1 a dd) (hp:Hp w0 M (J x0).2.1 w) (hi: (J x0).2.2 M)
 (round: ∀x M' a w,M.le M'→(J x).2.2 M'→Frm n (J x).1 a dd→Hp w0 M' (J x).2.1 w→c.wp P (Exit.then (λa' w'=>∃x',x'.1<x.1∧∃M',M.le M'∧(J x').2.2 M'∧Frm n (J x').1 a' dd∧Hp w0 M' (J x').2.1 w') Q) a w):
 (Code.loop c).wp P Q a w:=R_loop (λx=>(J x).1) (λx=>(J x).2.1) (λx=>(J x).2.2) (λx=>x.1) x0 hf hp hi round
end
theorem Mem.le_tr {a b c:Mem} (h:b.le c) (h':a.le b):a.le c:=h'.trans h
theorem mL {M M':Mem} (h:M.le M':=by repeat (first|with_reducible assumption|with_reducible exact Mem.le_refl _|refine Mem.le_tr (by with_reducible assumption) ?_)):M.le M':=h
section
variable {M M':Mem} {sz:Nat} {α:Type} {f:α→Dat} {A:Oa} {cap:Nat} {xs:List α}
theorem Sli.mo (h:Sli M sz f A cap xs) (hM:M.le M':=by repeat (first|with_reducible assumption|with_reducible exact Mem.le_refl _|refine Mem.le_tr (by with_reducible assumption) ?_)):Sli M' sz f A cap xs:=h.mono hM
theorem Rep.mo {d:Dat} {cs:Lv} (h:Rep M d cs) (hM:M.le M':=by repeat (first|with_reducible assumption|with_reducible exact Mem.le_refl _|refine Mem.le_tr (by with_reducible assumption) ?_)):Rep M' d cs:=Rep.mono hM _ _ h
theorem ae.mo {ds:List Dat} {cs:Lv} (h:ae M ds cs) (hM:M.le M':=by repeat (first|with_reducible assumption|with_reducible exact Mem.le_refl _|refine Mem.le_tr (by with_reducible assumption) ?_)):ae M' ds cs:=ae.mono hM _ _ h
theorem fu {base:Addr} {cs:Lv} (h: ∀j u,cs[j]? =some u→M.cell? (base.add j)=some u) (hM:M.le M':=by repeat (first|with_reducible assumption|with_reducible exact Mem.le_refl _|refine Mem.le_tr (by with_reducible assumption) ?_)): ∀j u,cs[j]? =some u→M'.cell? (base.add j)=some u:=fzu hM h
theorem Sli.aM (M':Mem) (h:Sli M sz f A cap xs) {i:Int} {x:α} (hx:aB xs i=some x) (hM:M.le M':=by repeat (first|with_reducible assumption|with_reducible exact Mem.le_refl _|refine Mem.le_tr (by with_reducible assumption) ?_)):
 ∃ad c,A=some ad∧Rep M' (f x) c∧∀j v,c[j]? =some v→M'.cell? ((ad.add (i.toNat*sz)).add j)=some v:=by
 obtain⟨ad,c,h1,_,h3,h4⟩:=Sli.at_ (h.mono hM) hx
 exact⟨ad,c,h1,h3,h4⟩
theorem Hp.at_ {w0 w:World} {H:List Ent} (_:Hp w0 M' H w) (h:Sli M sz f A cap xs) {i:Int} {x:α} (hx:aB xs i=some x) (hM:M.le M':=by repeat (first|with_reducible assumption|with_reducible exact Mem.le_refl _|refine Mem.le_tr (by with_reducible assumption) ?_)):
 ∃ad c,A=some ad∧Rep M' (f x) c∧∀j v,c[j]? =some v→M'.cell? ((ad.add (i.toNat*sz)).add j)=some v:=by
 obtain⟨ad,c,h1,_,h3,h4⟩:=Sli.at_ (h.mono hM) hx
 exact⟨ad,c,h1,h3,h4⟩
end
def ldX (o:Oper):Operand:=match o.op with|.load _ x=>x|_=>.const undef
def szN (P:Program) (t:TypeId):Nat:=match P.info? t with|some i=>i.size|none=>0
def okLd (P:Program) (o:Oper) (j:Nat) (cs:Lv):Bool:=match o.op with
 |.load t _=>bif one1 P t then Nat.blt j cs.length else aggN P t (szN P t)&&Nat.ble (j+szN P t) cs.length
 |_=>false
def ldV (P:Program) (o:Oper) (j:Nat) (cs:Lv):Value:=match o.op with
 |.load t _=>bif one1 P t then(cs[j]?).getD undef else .agg ((cs.drop j).take (szN P t)).toArray
 |_=>undef
def offV:Value→Nat
 |.pointer (some ad)=>ad.off
 |_=>0
def cellsE (H:List Ent) (i:Nat):Lv:=match H[i]? with
 |some (.obj _ (.cells cs _ _))=>cs.toList
 |_=>[]
def blkE (H:List Ent) (i:Nat):Nat:=match H[i]? with
 |some (.obj b _)=>b
 |_=>0
def isCells (H:List Ent) (i:Nat):Bool:=match H[i]? with
 |some (.obj _ (.cells _ _ _))=>true
 |_=>false
theorem mM {H:List Ent} {i:Nat} (h:isCells H i=true): ∃cs T fr,H[i]? =some (.obj (blkE H i) (.cells cs T fr))∧cellsE H i=cs.toList:=by
 unfold isCells at h
 split at h
 ·rename_i b cs T fr he
  refine⟨cs,T,fr,?_,?_⟩
  ·unfold blkE;rw[he]
  unfold cellsE;rw[he]
 cases h
section
variable {P:Program} {w0 w:World} {M:Mem} {H:List Ent} {ρ:Operand→Value} {o:Oper}
theorem XL {cs:Lv} {base:Addr} (hc: ∀k v,cs[k]? =some v→w.cell? (base.add k)=some v) (j:Nat) (hx:ρ (ldX o)=.pointer (some (base.add j))) (hB:okLd P o j cs=true):
 (execOp ρ o).run P w=.ok (.value (ldV P o j cs)) w:=by
 unfold okLd at hB
 split at hB
 ·rename_i t x he
  have hx':ρ x=.pointer (some (base.add j)):=by simpa [ldX,he] using hx
  have hV:ldV P o j cs=bif one1 P t then(cs[j]?).getD undef else .agg ((cs.drop j).take (szN P t)).toArray:=by unfold ldV;rw[he]
  rw[hV]
  cases h1:one1 P t with
  |true=>
   rw[h1,cond_true] at hB
   have hlt:j<cs.length:=by simpa [Nat.blt_eq] using hB
   refine eo he hx' h1 (hc j _ ?_)
   simp[List.getElem?_eq_getElem hlt]
  |false=>
   rw[h1,cond_false] at hB
   obtain⟨h2,h3⟩:=Bool.and_eq_true_iff.1 hB
   have hle:=Nat.le_of_ble_eq_true h3
   have hl: ((cs.drop j).take (szN P t)).length=szN P t:=by rw[List.length_take,List.length_drop];omega
   refine X_loadN he hx' (by rw[hl];exact h2) λk v hv=>?_
   have hk:k<szN P t:=hl▸ (List.getElem?_eq_some_iff.1 hv).1
   rw[List.getElem?_take_of_lt hk,List.getElem?_drop] at hv
   rw[hT]
   exact hc _ v hv
 cases hB
theorem XO (hp:Hp w0 M H w) (i:Nat) (hx:ρ (ldX o)=Pa ⟨blkE H i,offV (ρ (ldX o)),none⟩:=by kernel_rfl) (hB: (isCells H i&&okLd P o (offV (ρ (ldX o))) (cellsE H i))=true:=by kernel_rfl):
 (execOp ρ o).run P w=.ok (.value (ldV P o (offV (ρ (ldX o))) (cellsE H i))) w:=by
 obtain⟨h1,h2⟩:=Bool.and_eq_true_iff.1 hB
 obtain⟨cs,T,fr,h3,h4⟩:=mM h1
 refine XL (base:=⟨blkE H i,0,none⟩) (λk v hv=>?_) _ (by rw[Addr.add_lit,Nat.zero_add];exact hx) h2
 rw[Addr.add_lit,Nat.zero_add,hp.ownCell i h3 k]
 rw[h4] at hv
 simpa using hv
theorem XK {M1:Mem} {cs:Lv} {base:Addr} (hp:Hp w0 M H w) (hc: ∀k v,cs[k]? =some v→M1.cell? (base.add k)=some v) (j:Nat) (hx:ρ (ldX o)=Pa (base.add j):=by kernel_rfl) (hB:okLd P o j cs=true:=by kernel_rfl) (hM:M1.le M:=by repeat (first|with_reducible assumption|with_reducible exact Mem.le_refl _|refine Mem.le_tr (by with_reducible assumption) ?_)):
 (execOp ρ o).run P w=.ok (.value (ldV P o j cs)) w:=XL (λk v hv=>hp.cell (hM.cell (hc k v hv))) j hx hB
theorem XR {e:TypeId} {sz n m cap g k:Nat} {v:Value} {cs c:Lv} (hp:Hp w0 M H w) (i:Nat) (hv:v=.slice (some ⟨g,0,none⟩) m cap) (hc: ∀j u,c[j]? =some u→cs[k+j]? =some u) (j:Nat)
 (he:H[i]? =some (.row e sz v n cs):=by rfl) (hx:ρ (ldX o)=Pa (((⟨g,0,none⟩:Addr).add k).add j):=by kernel_rfl) (hB:okLd P o j c=true:=by kernel_rfl):
 (execOp ρ o).run P w=.ok (.value (ldV P o j c)) w:=XL (λj v h=>row_at (hp.rowCell i he hv) hc j v h) j hx hB
theorem ownK {b:Nat} {cs:Lv} (hp:Hp w0 M H w) (i:Nat) (hb:blkE H i=b:=by kernel_rfl) (hc:cellsE H i=cs:=by kernel_rfl): ∀j v,cs[j]? =some v→w.cell? ((⟨b,0,none⟩:Addr).add j)=some v:=λj v hv=>by
 have hB:isCells H i=true:=by
  cases hh:isCells H i with
  |true=>rfl
  |false=>
   have:cellsE H i=[]:=by
    unfold cellsE
    unfold isCells at hh
    split at hh
    ·cases hh
    rename_i hn
    cases hH:H[i]? with
    |none=>rfl
    |some e=>
     cases e with
     |row=>rfl
     |obj b o=>
      cases o with
      |cells cs T fr=>exact(hn b cs T fr hH).elim
      |_=>rfl
   rw[←hc,this] at hv
   simp at hv
 obtain⟨c,T,fr,h3,h4⟩:=mM hB
 subst hb
 rw[Addr.add_lit,Nat.zero_add,hp.ownCell i h3 j]
 rw[←hc,h4] at hv
 simpa using hv
theorem ownKj {cs:Lv} (hp:Hp w0 M H w) (i j0:Nat) (hc: ((cellsE H i).drop j0).take cs.length=cs): ∀j v,cs[j]? =some v→w.cell? ((⟨blkE H i,j0,none⟩:Addr).add j)=some v:=λj v hv=>by
 have hj:j<cs.length:=(List.getElem?_eq_some_iff.1 hv).1
 rw[←hc,List.getElem?_take_of_lt hj,List.getElem?_drop] at hv
 have:=ownK hp i rfl rfl (j0+j) v hv
 rw[Addr.add_lit,Nat.zero_add] at this
 rw[Addr.add_lit]
 exact this
theorem Rv.oN {n:Nat} {L:Fr} {a:Act} {x t:Nat} (cs:Lv) (hf:Frm n L a dd) (hp:Hp w0 M H w) (i j:Nat) (h:look L x=some (Pa ⟨blkE H i,j,none⟩):=by kernel_rfl) (ht:aggN P t cs.length=true:=by kernel_rfl) (hc: ((cellsE H i).drop j).take cs.length=cs:=by kernel_rfl):Rv P a w (.cell x t) (.agg cs.toArray):=
 Rv.cellN hf h ht (ownKj hp i j hc)
theorem Rv.o1 {n:Nat} {L:Fr} {a:Act} {x t:Nat} (v:Value) (hf:Frm n L a dd) (hp:Hp w0 M H w) (i j:Nat) (h:look L x=some (Pa ⟨blkE H i,j,none⟩):=by kernel_rfl) (ht:one1 P t=true:=by kernel_rfl) (hc: (cellsE H i)[j]? =some v:=by kernel_rfl):Rv P a w (.cell x t) v:=
 Rv.cell1 hf h ht (by have:=ownK hp i rfl rfl j v hc;rw[Addr.add_lit,Nat.zero_add] at this;exact this)
def ixS (o:Oper):Operand:=match o.op with|.indexAddr _ x _=>x|_=>.const undef
def ixI (o:Oper):Operand:=match o.op with|.indexAddr _ _ x=>x|_=>.const undef
def ixZ (P:Program) (o:Oper):Nat:=match o.op with
 |.indexAddr t _ _=>(match P.underlying t with|some (.slice e)=>szN P e|_=>0)
 |_=>0
def okIx (P:Program) (o:Oper):Bool:=match o.op with
 |.indexAddr t _ _=>(match P.underlying t with|some (.slice e)=>szIs P e (szN P e)|_=>false)
 |_=>false
def capV:Value→Nat
 |.slice _ _ c=>c
 |_=>0
def kindV:Value→IntKind
 |.int k _=>k
 |_=>.i64
theorem XI {α:Type} {A:Oa} {ad:Addr} {xs:List α} {it:Int} {x0:α} (hA:A=some ad) (hg:aB xs it=some x0) (hs:ρ (ixS o)=.slice A xs.length (capV (ρ (ixS o))):=by kernel_rfl) (hi:ρ (ixI o)=.int (kindV (ρ (ixI o))) it:=by kernel_rfl) (hB:okIx P o=true:=by kernel_rfl):
 (execOp ρ o).run P w=.ok (.value (Pa (ad.add (it.toNat*ixZ P o)))) w:=by
 unfold okIx at hB
 split at hB
 ·rename_i t x y he
  split at hB
  ·rename_i e hu
   have h1:ixZ P o=szN P e:=by unfold ixZ;rw[he];simp only[hu]
   rw[h1]
   exact pu hA he (by simpa [ixS,he] using hs) (by simpa [ixI,he] using hi) hu hB (eW hg) (eV hg)
  cases hB
 cases hB
theorem XIo {α:Type} {v:Value} {b cap:Nat} {d:List α} {it:Int} {x0:α} (hv:v=.slice (some ⟨b,0,none⟩) d.length cap) (hg:aB d it=some x0) (hs:ρ (ixS o)=v:=by kernel_rfl) (hi:ρ (ixI o)=.int (kindV (ρ (ixI o))) it:=by kernel_rfl) (hB:okIx P o=true:=by kernel_rfl):
 (execOp ρ o).run P w=.ok (.value (Pa ((⟨b,0,none⟩:Addr).add (it.toNat*ixZ P o)))) w:=by
 unfold okIx at hB
 split at hB
 ·rename_i t x y he
  split at hB
  ·rename_i e hu
   have h1:ixZ P o=szN P e:=by unfold ixZ;rw[he];simp only[hu]
   rw[h1]
   exact qK he (by simpa [ixS,he] using hs.trans hv) (by simpa [ixI,he] using hi) hu hB (eW hg) (eV hg)
  cases hB
 cases hB
end
def setL:Lv→Nat→Lv→Lv
 |c::cs,0,v::vs=>v::setL cs 0 vs
 |c::cs,j+1,vs=>c::setL cs j vs
 |cs,_,_=>cs
theorem setL_nil (l:Lv) (j:Nat):setL l j []=l:=by
 induction l generalizing j with
 |nil=>cases j<;>rfl
 |cons c cs ih=>cases j with
  |zero=>rfl
  |succ j=>simp only[setL];rw[ih]
theorem setL_eq: ∀ (l:Lv) (j:Nat) (vs:Lv),j+vs.length≤l.length→setL l j vs=l.take j++vs++l.drop (j+vs.length)
 |l,j,[],h=>by rw[setL_nil];simp
 |[],j,v::vs,h=>by simp at h
 |c::cs,0,v::vs,h=>by
  simp only[List.length_cons] at h
  simp only[setL]
  rw[setL_eq cs 0 vs (by omega)]
  simp
 |c::cs,j+1,v::vs,h=>by
  simp only[List.length_cons] at h
  simp only[setL]
  rw[setL_eq cs j (v::vs) (by simp only[List.length_cons];omega)]
  simp only[List.take_succ_cons,List.cons_append,List.length_cons]
  rw[show j+1+ (vs.length+1)=(j+ (vs.length+1))+1 by omega,List.drop_succ_cons]
theorem setL_M {cs:Array Value} {j:Nat} {vs:Lv} (h:j+vs.length≤cs.size):setM cs j vs=(setL cs.toList j vs).toArray:=by
 apply Array.ext'
 rw[ox _ _ _ h,List.toList_toArray,setL_eq _ _ _ (by rw[Array.length_toList];exact h)]
def setE:List Ent→Nat→Nat→Lv→List Ent
 |.obj b (.cells cs T fr)::H,0,j,vs=>.obj b (.cells (setL cs.toList j vs).toArray T fr)::H
 |e::H,i+1,j,vs=>e::setE H i j vs
 |H,_,_,_=>H
theorem setE_eq0: ∀ {H:List Ent} {i j b:Nat} {vs:Lv} {cs:Array Value} {T:TypeId} {fr:Nat×Nat},H[i]? =some (.obj b (.cells cs T fr))→setE H i j vs=H.set i (.obj b (.cells (setL cs.toList j vs).toArray T fr))
 |[],i,j,b,vs,cs,T,fr,h=>by simp at h
 |e::H,0,j,b,vs,cs,T,fr,h=>by
  simp only[List.getElem?_cons_zero,Option.some.injEq] at h
  subst h
  rfl
 |e::H,i+1,j,b,vs,cs,T,fr,h=>by
  simp only[List.getElem?_cons_succ] at h
  have:=setE_eq0 (j:=j) (vs:=vs) h
  simp only[List.set_cons_succ]
  rw[←this]
  cases e with
  |obj c o=>cases o<;>rfl
  |row=>rfl
theorem setE_eq {H:List Ent} {i j b:Nat} {vs:Lv} {cs:Array Value} {T:TypeId} {fr:Nat×Nat} (h:H[i]? =some (.obj b (.cells cs T fr))) (hj:j+vs.length≤cs.size):setE H i j vs=H.set i (.obj b (.cells (setM cs j vs) T fr)):=by
 rw[setE_eq0 h,setL_M hj]
def stX (o:Oper):Operand:=match o.op with|.store _ x _=>x|_=>.const undef
def stY (o:Oper):Operand:=match o.op with|.store _ _ y=>y|_=>.const undef
def okSt (P:Program) (ops:Array Oper) (L:Fr) (o:Oper) (H:List Ent) (i j:Nat) (vs:Lv):Bool:=
 (match bi ops L o with|some true=>true|_=>false)&&bW L o&&o.dst.isNone&&
 (match o.op with|.store t _ _=>szIs P t vs.length|_=>false)&&
 (match H[i]? with|some (.obj _ (.cells cs _ (lo,hi)))=>Nat.ble (j+vs.length) cs.size&&Nat.ble hi lo|_=>false)&&vs.all (·.oneCell')
theorem tJ {P:Program} {ops:Array Oper} {L:Fr} {o:Oper} {H:List Ent} {i j:Nat} {vs:Lv} (h:okSt P ops L o H i j vs=true):
 bi ops L o=some true∧bW L o=true∧o.dst=none∧(∃t,o.op=.store t (stX o) (stY o)∧szIs P t vs.length=true)∧
 (∃cs T lo hi,H[i]? =some (.obj (blkE H i) (.cells cs T (lo,hi)))∧j+vs.length≤cs.size∧hi≤lo)∧∀v∈vs,v.oneCell'=true:=by
 unfold okSt at h
 simp only[Bool.and_eq_true] at h
 obtain⟨⟨⟨⟨⟨h1,h2⟩,h3⟩,h4⟩,h5⟩,h6⟩:=h
 refine⟨?_,h2,by simpa using h3,?_,?_,by simpa using h6⟩
 ·split at h1
  ·assumption
  cases h1
 ·split at h4
  ·rename_i t x y he
   exact⟨t,by simp[stX,stY,he],h4⟩
  cases h4
 split at h5
 ·rename_i b cs T lo hi he
  simp only[Bool.and_eq_true] at h5
  refine⟨cs,T,lo,hi,?_,Nat.le_of_ble_eq_true h5.1,Nat.le_of_ble_eq_true h5.2⟩
  unfold blkE;rw[he]
 cases h5
section
variable {P:Program} {ops:Array Oper} {n:Nat} {Q:Exit→Act→World→Prop} {L:Fr} {a:Act} {w0 w:World} {M:Mem} {H:List Ent}
theorem Wt {o:Oper} {rest:List Oper} (hf:Frm n L a dd) (hp:Hp w0 M H w) (i j:Nat) (v:Value) (hk: ∀w',Hp w0 M (setE H i j [v]) w'→∀a',Frm n L a' dd→wpList P ops Q rest a' w')
 (hB:okSt P ops L o H i j [v]=true:=by kernel_rfl) (hx:ev L (stX o)=Pa ⟨blkE H i,j,none⟩:=by kernel_rfl) (hy:ev L (stY o)=v:=by kernel_rfl):wpList P ops Q (o::rest) a w:=by
 obtain⟨h1,h2,h3,⟨t,h4,h5⟩,⟨cs,T,lo,hi,h6,h7,h8⟩,h9⟩:=tJ hB
 have h7':=h7
 simp only[List.length_cons,List.length_nil] at h7
 refine jF hf hp i h1 h2 h3 h4 hx hy (h9 v (by simp)) h5 h6 (by omega) (by omega) _ (setE_eq (j:=j) (vs:=[v]) h6 h7').symm hk
theorem Wu {o:Oper} {rest:List Oper} (hf:Frm n L a dd) (hp:Hp w0 M H w) (i j:Nat) (vs:Lv) (hk: ∀w',Hp w0 M (setE H i j vs) w'→∀a',Frm n L a' dd→wpList P ops Q rest a' w')
 (hB:okSt P ops L o H i j vs=true:=by kernel_rfl) (hx:ev L (stX o)=Pa ⟨blkE H i,j,none⟩:=by kernel_rfl) (hy:ev L (stY o)=.agg vs.toArray:=by kernel_rfl):wpList P ops Q (o::rest) a w:=by
 obtain⟨h1,h2,h3,⟨t,h4,h5⟩,⟨cs,T,lo,hi,h6,h7,h8⟩,h9⟩:=tJ hB
 refine pt hf (hp.pull i h6 rfl) h1 h2 h3 h4 hx hy h9 h5 h7 h8 rfl λw' hp' a' ha=>hk w' ?_ a' ha
 rw[setE_eq h6 h7]
 exact Hp.at_set i (List.getElem?_eq_some_iff.1 h6).1 hp'
theorem Ch {o:Oper} {rest:List Oper} {f:FuncId} {args:Lv} {E:List Ent} {Post:Mem→List Ent→Value→Prop} (hf:Frm n L a dd) (hp:Hp w0 M H w) (hc:OkH P M E f args Post)
 (hk: ∀v M' E' w',M.le M'→Hp w0 M' (E'++H.drop E.length) w'→Post M' E' v→∀a',Frm n ((dstO o,v)::L) a' dd→wpList P ops Q rest a' w')
 (hH:H=E++H.drop E.length:=by kernel_rfl) (hB:okO ops n L o=true:=by kernel_rfl) (hx: ∀w,(execOp (ev L) o).run P w=.ok (.enter f args.toArray) w:=by intro _;kernel_rfl):wpList P ops Q (o::rest) a w:=
 V_okH hf (hH▸hp) hc hB hx hk
theorem Cx {ρ:Type} {T:TypeId} {o:Oper} {rest:List Oper} {f:FuncId} {args:Lv} {E:List Ent} {x:Int×Bs} {Post:ρ→Mem→List Ent→Value→Prop} (hf:Frm n L a dd) (hp:Hp w0 M H w) (hc:OkXH P M E f args T (.inl x) Post)
 (hk: ∀M' w',M.le M'→Hp w0 M' (H.drop E.length) w'→Q (.panic (flawE T x)) a w')
 (hH:H=E++H.drop E.length:=by kernel_rfl) (hB:okO ops n L o=true:=by kernel_rfl) (hx: ∀w,(execOp (ev L) o).run P w=.ok (.enter f args.toArray) w:=by intro _;kernel_rfl):wpList P ops Q (o::rest) a w:=
 V_okXHp hf (hH▸hp) hc hB hx hk
end
section
variable {w0 w:World} {M:Mem} {H:List Ent}
def cellAt (H:List Ent) (i j:Nat):Option Value:=(cellsE H i)[j]?
theorem setM_same: ∀ (cs:Array Value) (j:Nat) (v:Value),cs.toList[j]? =some v→setM cs j [v]=cs:=λcs j v h=>by
 simp only[setM]
 have h':cs[j]? =some v:=by simpa using h
 obtain⟨hj,e⟩:=Array.getElem?_eq_some_iff.1 h'
 apply Array.ext
 ·simp
 intro i h1 h2
 rw[Array.getElem_setIfInBounds (by simpa using h1)]
 split
 ·rename_i hij;subst hij;exact e.symm
 rfl
theorem setE_same {H:List Ent} {i j:Nat} {v:Value} (h:cellAt H i j=some v):setE H i j [v]=H:=by
 have hc:isCells H i=true:=by
  cases hb:isCells H i with
  |true=>rfl
  |false=>
   have:cellsE H i=[]:=by
    unfold cellsE
    unfold isCells at hb
    split at hb
    ·cases hb
    rename_i hn
    cases hH:H[i]? with
    |none=>rfl
    |some e=>
     cases e with
     |row=>rfl
     |obj b o=>
      cases o with
      |cells cs T fr=>exact(hn b cs T fr hH).elim
      |_=>rfl
   rw[cellAt,this] at h
   simp at h
 obtain⟨cs,T,fr,h1,h2⟩:=mM hc
 have h3:cs.toList[j]? =some v:=by rw[cellAt,h2] at h;exact h
 have h4:j<cs.toList.length:=(List.getElem?_eq_some_iff.1 h3).1
 rw[setE_eq h1 (by rw[Array.length_toList] at h4;simp only[List.length_cons,List.length_nil];omega),setM_same cs j v h3]
 obtain⟨hi,he⟩:=List.getElem?_eq_some_iff.1 h1
 rw[←he];exact List.set_getElem_self hi
theorem Hp.nilC (h:Hp w0 M H w) (i j e sz:Nat) (α:Type) (hc:cellAt H i j=some Sn:=by kernel_rfl):
 ∃A cap,Value.slice none 0 0=.slice A ([]:List α).length cap∧Hp w0 M (.row e sz (.slice A ([]:List α).length cap) ([]:List α).length []::setE H i j [.slice A ([]:List α).length cap]) w:=
 ⟨none,0,rfl,by rw[show(Value.slice none ([]:List α).length 0)=Sn from rfl,setE_same hc];exact h.nilRow e sz⟩
theorem Hp.nilD (h:Hp w0 M H w) (e sz:Nat) (α:Type): ∃A cap,Value.slice none 0 0=.slice A ([]:List α).length cap∧Hp w0 M (.row e sz (.slice A ([]:List α).length cap) ([]:List α).length []::H) w:=⟨none,0,rfl,h.nilRow e sz⟩
theorem Hp.litS {α:Type} {f:α→Dat} {sz b e:Nat} {cs:Array Value} {xs:List α} {cl:List Value} (h:Hp w0 M (.obj b (.cells cs e (0,0))::H) w) (k:Nat) (hf: ∀x,Szd sz (f x)) (hr:ae M (xs.map f) cl) (hl:cs.toList=cl:=by kernel_rfl) (hk:xs.length=k:=by rfl) (hm:Nat.ble k maxLen=true:=by rfl):
 ∃A cap M',Value.slice (some ⟨b,0,none⟩) k k=.slice A xs.length cap∧M.le M'∧Hp w0 M' H w∧Sli M' sz f A cap xs:=by
 have hlen:=ae.len (dv hf) hr
 rw[List.length_map] at hlen
 have hsz:cs.size=k*sz:=by rw[←Array.length_toList,hl,hlen,hk]
 have hp:Hp w0 M (.row e sz (.slice (some ⟨b,0,none⟩) xs.length xs.length) xs.length cl::H) w:=by
  refine h.objRow (n:=xs.length) (cap:=xs.length) (Nat.le_refl _) (by rw[hk];exact Nat.le_of_ble_eq_true hm) (by rw[hk];exact blk_eq (Nat.le_of_ble_eq_true hm) hsz) ?_ hlen
  rw[hl,←hlen];exact List.take_length
 have hq:=hp.rowSli hf hr
 have hk':xs.length=k:=hk
 rw[hk'] at hq
 rw[hk']
 exact hq
end
section
variable {α:Type} {P:Program} {ops:Array Oper} {n:Nat} {Q:Exit→Act→World→Prop} {L:Fr} {a:Act} {w0 w:World} {M:Mem} {H:List Ent} {sz:Nat} {f:α→Dat}
def okStR (P:Program) (ops:Array Oper) (L:Fr) (o:Oper) (sz:Nat):Bool:=
 (match bi ops L o with|some true=>true|_=>false)&&bW L o&&o.dst.isNone&& (match o.op with|.store t _ _=>szIs P t sz|_=>false)
theorem Wr {o:Oper} {rest:List Oper} {e:TypeId} {it:Int} {m cap g:Nat} {v0:Value} {d:List α} {xv x0:α} {cs vs:Lv} (hf:Frm n L a dd) (hp:Hp w0 M (.row e sz v0 d.length cs::H) w) (hv0:v0=.slice (some ⟨g,0,none⟩) m cap)
 (hv:Rep M (f xv) vs) (hfs: ∀x,Szd sz (f x)) (hg:aB d it=some x0) (hcs:ae M (d.map f) cs)
 (hk: ∀cs' w',Hp w0 M (.row e sz v0 d.length cs'::H) w'→ae M ((d.set it.toNat xv).map f) cs'→d.length=(d.set it.toNat xv).length→∀a',Frm n L a' dd→wpList P ops Q rest a' w')
 (hB:okStR P ops L o sz=true:=by kernel_rfl) (hx:ev L (stX o)=Pa ((⟨g,0,none⟩:Addr).add (it.toNat*sz)):=by kernel_rfl) (hy:ev L (stY o)=.agg vs.toArray:=by kernel_rfl):wpList P ops Q (o::rest) a w:=by
 unfold okStR at hB
 simp only[Bool.and_eq_true] at hB
 obtain⟨⟨⟨h1,h2⟩,h3⟩,h4⟩:=hB
 split at h1
 ·rename_i h1'
  split at h4
  ·rename_i t x y he
   have hx':ev L x=Pa ((⟨g,0,none⟩:Addr).add (it.toNat*sz)):=by simpa [stX,he] using hx
   have hy':ev L y=.agg vs.toArray:=by simpa [stY,he] using hy
   exact W_rowstoreN hf hp hv0 h1' h2 (by simpa using h3) he hx' hy' hv h4 hfs hg hcs λcs' w' hp' hr' a' ha=>hk cs' w' (by rw[List.length_set] at hp';exact hp') hr' List.length_set.symm a' ha
  cases h4
 cases h1
end
theorem Frm.sv {n:Nat} {L:Fr} {a:Act} {i j:Nat} (h:Frm n L a dd) (k:Nat) (A:Oa) (c:Nat) (e:i=j) (hl:Go.Vc.look L k=some (.slice A i c):=by kernel_rfl):Frm n ((k,.slice A j c)::L) a dd:=h.set k hl (by rw[e])
theorem Hp.objR {w0 w:World} {M:Mem} {H:List Ent} {b e:Nat} {cs:Array Value} (h:Hp w0 M (.obj b (.cells cs e (0,0))::H) w) (k sz:Nat) (hs:Nat.beq cs.size (k*sz)=true:=by kernel_rfl) (hm:Nat.ble k maxLen=true:=by rfl):
 Hp w0 M (.row e sz (.slice (some ⟨b,0,none⟩) k k) k cs.toList::H) w:=by
 have h1:=Nat.eq_of_beq_eq_true hs
 refine h.objRow (n:=k) (cap:=k) (Nat.le_refl _) (Nat.le_of_ble_eq_true hm) (blk_eq (Nat.le_of_ble_eq_true hm) h1) ?_ (by rw[Array.length_toList,h1])
 rw[←h1,←Array.length_toList];exact List.take_length
theorem Hp.toRow {α:Type} {f:α→Dat} {xs:List α} {cs:Lv} {w0 w:World} {M:Mem} {H:List Ent} (h:Hp w0 M H w) (i e sz:Nat) (A:Oa) (cap:Nat) (hr:ae M (xs.map f) cs) (hH:H[i]? =some (.row e sz (sL A xs cap) xs.length cs):=by kernel_rfl):
 Hp w0 M (.row e sz (sL A xs cap) xs.length cs::H.eraseIdx i) w:=h.pull i hH rfl
theorem Hp.rowSliK {α:Type} {f:α→Dat} {xs:List α} {cs:Lv} {w0 w:World} {M:Mem} {H:List Ent} {sz:Nat} (h:Hp w0 M H w) (i e:Nat) (A:Oa) (cap:Nat) (hf: ∀x,Szd sz (f x)) (hr:ae M (xs.map f) cs) (hH:H[i]? =some (.row e sz (sL A xs cap) xs.length cs):=by kernel_rfl):
 ∃A' cap' M',Value.slice A xs.length cap=.slice A' xs.length cap'∧M.le M'∧Hp w0 M' (H.eraseIdx i) w∧Sli M' sz f A' cap' xs:=(h.toRow i e sz A cap hr hH).rowSli hf hr
theorem Hp.kr {w0 w:World} {M:Mem} {H H':List Ent} (h:Hp w0 M H w) (e:H=H':=by kernel_rfl):Hp w0 M H' w:=e▸h
section
variable {P:Program} {ops:Array Oper} {n:Nat} {Q:Exit→Act→World→Prop} {L:Fr} {a:Act} {w0 w:World} {M M1:Mem} {H Hr:List Ent} {l:List Oper} {ks:List Nat}
theorem cu {id:Nat} (k:Nat) (ord:List (Nat×Bool)) (hp:Hp w0 M H w) (h:wpMix P l.toArray Q (Cla w0 M (H.drop k)) (pickL l ord) a (M,H.take k)) (hm:P.follows .mixedOrders=true:=by kernel_rfl) (hs:Region.noSelect l.toArray=true:=by kernel_rfl) (hl:ord.length=l.length:=by rfl)
 (hB:Region.mixB .any l.toArray ord (Array.replicate l.length false)=true:=by kernel_rfl): (Code.region id l.toArray true).wp P Q a w:=
 R_mix ord (by rw[List.take_append_drop];exact hp) hm hs hl hB h
theorem bL {rest:List (Bool×Oper)} (k:Nat) (hM:M.le M1) (hp:Hp w0 M1 H w) (h:wpMix P ops Q (Cla w0 M Hr) rest a (M1,H.take k)) (hH:H.drop k=Hr:=by kernel_rfl):
 mixQ Q (λa' w'=>∃i',Cla w0 M Hr i' w'∧wpMix P ops Q (Cla w0 M Hr) rest a' i') .normal a w:=by
 subst hH
 exact M_go hM (by rw[List.take_append_drop];exact hp) h
theorem dG {id:Nat} (ks:List Nat) (k:Nat) (hp:Hp w0 M H w) (pl:Plan) (h:wpPlan P l ks Q (Cla w0 M (H.drop k)) pl a (M,H.take k)) (hm:P.follows .mixedOrders=true:=by kernel_rfl) (hs:Region.noSelect l.toArray=true:=by kernel_rfl)
 (hB: (Nat.ble ks.length l.length&&Plan.ok .any l.toArray ks pl true (l.length-ks.length) (Array.replicate l.length false))=true:=by kernel_rfl): (Code.region id l.toArray true).wp P Q a w:=
 R_plan pl (by rw[List.take_append_drop];exact hp) hm hs hB h
theorem ap {p:Plan} (k:Nat) (hM:M.le M1) (hp:Hp w0 M1 H w) (h:wpPlan P l ks Q (Cla w0 M Hr) p a (M1,H.take k)) (hH:H.drop k=Hr:=by kernel_rfl):
 mixQ Q (λa' w'=>∃i',Cla w0 M Hr i' w'∧wpPlan P l ks Q (Cla w0 M Hr) p a' i') .normal a w:=N_goN k hM hp hH h
end
theorem Hp.sub {w0 w:World} {M:Mem} {H H':List Ent} (h:Hp w0 M H w) (s:H'.Sublist H):Hp w0 M H' w:=⟨h.below,h.mem,λx hx=>h.own x (s.subset hx),h.apart.sublist s,λx hx=>h.free x (s.subset hx)⟩
def zE (P:Program) (e:TypeId):Value:=match P.info? e with
 |some i=>i.zero.getD undef
 |none=>undef
section
variable {α:Type} {P:Program} {ops:Array Oper} {n:Nat} {Q:Exit→Act→World→Prop} {L:Fr} {a:Act} {w0 w:World} {M:Mem} {H:List Ent} {sz:Nat} {f:α→Dat}
theorem dM {o:Oper} {rest:List Oper} {d:Nat} {t e:TypeId} {x y:Operand} {bytes cap:Nat} {A:Oa} {xs:List α} {cs news:Lv} (y1:α) (q:Nat) (hf:Frm n L a dd) (hp:Hp w0 M (.row e sz (sL A xs cap) xs.length cs::H) w)
 (hcs:ae M (xs.map f) cs) (hys:Rep M (f y1) news) (hb: (xs.length+1)*bytes≤140737488355328)
 (hk: ∀A cap cs' w',Hp w0 M (.row e sz (sL A (xs++[y1]) cap) (xs++[y1]).length cs'::H.eraseIdx q) w'→ae M ((xs++[y1]).map f) cs'→∀a',Frm n ((d,sL A (xs++[y1]) cap)::L) a' dd→wpList P ops Q rest a' w')
 (hd:o.dst=some d:=by rfl) (ho:o.op=.call {callee:=.builtin .append,args:=#[x,y],argTypes:=#[t,t]}:=by rfl)
 (hw:bi ops L o=some true:=by kernel_rfl) (hr: (bW L o&&Nat.blt d n)=true:=by kernel_rfl) (hx:ev L x=sL A xs cap:=by kernel_rfl) (hy:ev L y=.slice (some ⟨blkE H q,0,none⟩) 1 (capV (ev L y)):=by kernel_rfl)
 (ht:P.underlying t=some (.slice e):=by kernel_rfl) (hi: (infoIs P e (zE P e) sz bytes&&Nat.ble 1 bytes)=true:=by kernel_rfl) (hl:Nat.beq news.length sz=true:=by kernel_rfl) (hn:cellsE H q=news:=by kernel_rfl):wpList P ops Q (o::rest) a w:=by
 obtain⟨h2,h3⟩:=Bool.and_eq_true_iff.1 hr
 obtain⟨i1,i2⟩:=Bool.and_eq_true_iff.1 hi
 have i3:=Nat.le_of_ble_eq_true i2
 have hl':=Nat.eq_of_beq_eq_true hl
 have h63:xs.length+1≤140737488355328:=Nat.le_trans (Nat.le_mul_of_pos_right _ (by omega)) hb
 exact jW (z:=zE P e) (ys:=[y1]) (news:=news) (ad:=⟨blkE H q,0,none⟩) (m:=1) (c:=capV (ev L y)) hf hp hcs (ae.one hys) hw h2 hd h3 ho hx hy ht i1 (by rw[hl'];simp) (ownK (H:=H) hp.drop q rfl hn) hb (by omega) λA' cap' cs' w' hp' hr' a' hf'=>hk A' cap' cs' w' (hp'.sub ((List.eraseIdx_sublist H q).cons_cons _)) hr' a' hf'
end
end Go.Vc
end
section
namespace Go.Proofs.YtkopljikappieaaGreatDoor
open Go Go.Vc Go.RowKit
structure TE0 where
 ab:Int
 an:Bool
 ak:Int
 aa:Bs
 ac:List TE0
 af:List Bs
abbrev lTE0 (x : TE0) (A4 : Option Addr) (c4 : Nat) (A5 : Option Addr) (c5 : Nat) : List Value := [.int .i8 x.ab, .bool x.an, .int .i64 x.ak, S x.aa, .slice A4 x.ac.length c4, .slice A5 x.af.length c5]
abbrev aTE0 (x : TE0) (A4 : Option Addr) (c4 : Nat) (A5 : Option Addr) (c5 : Nat) : Array Value := #[.int .i8 x.ab, .bool x.an, .int .i64 x.ak, S x.aa, .slice A4 x.ac.length c4, .slice A5 x.af.length c5]
mutual
def ai:TE0→Dat
 |⟨x0,x1,x2,x3,x4,x5⟩=>.struct [(Dat.int .i8) x0,Dat.bool x1,(Dat.int .i64) x2,Dat.str x3,.list 6 (nC x4),(eL 1 Dat.str) x5]
def nC:List TE0→List Dat
 |[]=>[]
 |x::r=>ai x::nC r
end
theorem qO: ∀l:List TE0,nC l=l.map ai
 |[]=>by simp[nC]
 |x::r=>by simp[nC,qO r]
theorem gM (x:TE0):ai x=.struct [(Dat.int .i8) x.ab,Dat.bool x.an,(Dat.int .i64) x.ak,Dat.str x.aa,(eL 6 ai) x.ac,(eL 1 Dat.str) x.af]:=by
 cases x
 simp[ai,eL,qO]
theorem jx (x:TE0):Szd 6 (ai x):=by rw[gM];exact(bq ((nh .i8) _) (bq (qg _) (bq ((nh .i64) _) (bq (bH _) (bq ((λ_=>io _ _) _) (bq ((λ_=>io _ _) _) ln))))))
theorem TE0.opn {M:Mem} {x:TE0} {cs:Lv} (h:Rep M (ai x) cs): ∃ (A4:Oa) (c4:Nat) (A5:Oa) (c5:Nat),cs=[.int .i8 x.ab,.bool x.an,.int .i64 x.ak,S x.aa,.slice A4 x.ac.length c4,.slice A5 x.af.length c5]∧Sli M 6 ai A4 c4 x.ac∧Sli M 1 Dat.str A5 c5 x.af:=by
 rw[gM] at h
 obtain⟨_,_,rfl,rfl,_,_,rfl,rfl,_,_,rfl,rfl,_,_,rfl,rfl,_,_,rfl,h4,_,_,rfl,h5,rfl⟩:=h
 obtain⟨A4,c4,rfl,z4⟩:=Rep.sli h4
 obtain⟨A5,c5,rfl,z5⟩:=Rep.sli h5
 exact⟨A4,c4,A5,c5,rfl,z4,z5⟩
theorem TE0.shutx {M:Mem} {x:TE0} {A4:Oa} {c4:Nat} {A5:Oa} {c5:Nat} (h4:Sli M 6 ai A4 c4 x.ac) (h5:Sli M 1 Dat.str A5 c5 x.af):Rep M (ai x) [.int .i8 x.ab,.bool x.an,.int .i64 x.ak,S x.aa,.slice A4 x.ac.length c4,.slice A5 x.af.length c5]:=by
 rw[gM];exact⟨_,_,rfl,rfl,_,_,rfl,rfl,_,_,rfl,rfl,_,_,rfl,rfl,_,_,rfl,(Sli.rep h4),_,_,rfl,(Sli.rep h5),rfl⟩
structure TG0 where
 ab:Int
 aa:Bs
 ak:Int
 av:Bs
 aF:Bs
 fL:List TG0
abbrev lTG0 (x : TG0) (A5 : Option Addr) (c5 : Nat) : List Value := [.int .i8 x.ab, S x.aa, .int .i64 x.ak, S x.av, S x.aF, .slice A5 x.fL.length c5]
abbrev aTG0 (x : TG0) (A5 : Option Addr) (c5 : Nat) : Array Value := #[.int .i8 x.ab, S x.aa, .int .i64 x.ak, S x.av, S x.aF, .slice A5 x.fL.length c5]
mutual
def aA:TG0→Dat
 |⟨x0,x1,x2,x3,x4,x5⟩=>.struct [(Dat.int .i8) x0,Dat.str x1,(Dat.int .i64) x2,Dat.str x3,Dat.str x4,.list 6 (nD x5)]
def nD:List TG0→List Dat
 |[]=>[]
 |x::r=>aA x::nD r
end
theorem qP: ∀l:List TG0,nD l=l.map aA
 |[]=>by simp[nD]
 |x::r=>by simp[nD,qP r]
theorem gn (x:TG0):aA x=.struct [(Dat.int .i8) x.ab,Dat.str x.aa,(Dat.int .i64) x.ak,Dat.str x.av,Dat.str x.aF,(eL 6 aA) x.fL]:=by
 cases x
 simp[aA,eL,qP]
theorem bT (x:TG0):Szd 6 (aA x):=by rw[gn];exact(bq ((nh .i8) _) (bq (bH _) (bq ((nh .i64) _) (bq (bH _) (bq (bH _) (bq ((λ_=>io _ _) _) ln))))))
theorem TG0.opn {M:Mem} {x:TG0} {cs:Lv} (h:Rep M (aA x) cs): ∃ (A5:Oa) (c5:Nat),cs=[.int .i8 x.ab,S x.aa,.int .i64 x.ak,S x.av,S x.aF,.slice A5 x.fL.length c5]∧Sli M 6 aA A5 c5 x.fL:=by
 rw[gn] at h
 obtain⟨_,_,rfl,rfl,_,_,rfl,rfl,_,_,rfl,rfl,_,_,rfl,rfl,_,_,rfl,rfl,_,_,rfl,h5,rfl⟩:=h
 obtain⟨A5,c5,rfl,z5⟩:=Rep.sli h5
 exact⟨A5,c5,rfl,z5⟩
theorem TG0.shutx {M:Mem} {x:TG0} {A5:Oa} {c5:Nat} (h5:Sli M 6 aA A5 c5 x.fL):Rep M (aA x) [.int .i8 x.ab,S x.aa,.int .i64 x.ak,S x.av,S x.aF,.slice A5 x.fL.length c5]:=by
 rw[gn];exact⟨_,_,rfl,rfl,_,_,rfl,rfl,_,_,rfl,rfl,_,_,rfl,rfl,_,_,rfl,rfl,_,_,rfl,(Sli.rep h5),rfl⟩
structure TD0 where
 av:Bs
 jo:Bool
 qo:Bool
 bb:TE0
 dO:List TE0
abbrev lTD0 (x : TD0) (A7 : Option Addr) (c7 : Nat) (A8 : Option Addr) (c8 : Nat) (A9 : Option Addr) (c9 : Nat) : List Value := [S x.av, .bool x.jo, .bool x.qo, .int .i8 x.bb.ab, .bool x.bb.an, .int .i64 x.bb.ak, S x.bb.aa, .slice A7 x.bb.ac.length c7, .slice A8 x.bb.af.length c8, .slice A9 x.dO.length c9]
abbrev aTD0 (x : TD0) (A7 : Option Addr) (c7 : Nat) (A8 : Option Addr) (c8 : Nat) (A9 : Option Addr) (c9 : Nat) : Array Value := #[S x.av, .bool x.jo, .bool x.qo, .int .i8 x.bb.ab, .bool x.bb.an, .int .i64 x.bb.ak, S x.bb.aa, .slice A7 x.bb.ac.length c7, .slice A8 x.bb.af.length c8, .slice A9 x.dO.length c9]
def ba:TD0→Dat
 |⟨x0,x1,x2,x3,x4⟩=>.struct [Dat.str x0,Dat.bool x1,Dat.bool x2,ai x3,(eL 6 ai) x4]
theorem oV (x:TD0):ba x=.struct [Dat.str x.av,Dat.bool x.jo,Dat.bool x.qo,ai x.bb,(eL 6 ai) x.dO]:=by
 cases x
 simp[ba,eL]
theorem rz (x:TD0):Szd 10 (ba x):=by rw[oV];exact(bq (bH _) (bq (qg _) (bq (qg _) (bq (jx _) (bq ((λ_=>io _ _) _) ln)))))
theorem TD0.opn {M:Mem} {x:TD0} {cs:Lv} (h:Rep M (ba x) cs): ∃ (A7:Oa) (c7:Nat) (A8:Oa) (c8:Nat) (A9:Oa) (c9:Nat),cs=[S x.av,.bool x.jo,.bool x.qo,.int .i8 x.bb.ab,.bool x.bb.an,.int .i64 x.bb.ak,S x.bb.aa,.slice A7 x.bb.ac.length c7,.slice A8 x.bb.af.length c8,.slice A9 x.dO.length c9]∧Sli M 6 ai A7 c7 x.bb.ac∧Sli M 1 Dat.str A8 c8 x.bb.af∧Sli M 6 ai A9 c9 x.dO:=by
 rw[oV] at h
 obtain⟨_,_,rfl,rfl,_,_,rfl,rfl,_,_,rfl,rfl,_,_,rfl,q0,_,_,rfl,h9,rfl⟩:=h
 rw[gM] at q0
 obtain⟨_,_,rfl,rfl,_,_,rfl,rfl,_,_,rfl,rfl,_,_,rfl,rfl,_,_,rfl,h7,_,_,rfl,h8,rfl⟩:=q0
 obtain⟨A7,c7,rfl,z7⟩:=Rep.sli h7
 obtain⟨A8,c8,rfl,z8⟩:=Rep.sli h8
 obtain⟨A9,c9,rfl,z9⟩:=Rep.sli h9
 exact⟨A7,c7,A8,c8,A9,c9,rfl,z7,z8,z9⟩
theorem TD0.shutx {M:Mem} {x:TD0} {A7:Oa} {c7:Nat} {A8:Oa} {c8:Nat} {A9:Oa} {c9:Nat} (h7:Sli M 6 ai A7 c7 x.bb.ac) (h8:Sli M 1 Dat.str A8 c8 x.bb.af) (h9:Sli M 6 ai A9 c9 x.dO):Rep M (ba x) [S x.av,.bool x.jo,.bool x.qo,.int .i8 x.bb.ab,.bool x.bb.an,.int .i64 x.bb.ak,S x.bb.aa,.slice A7 x.bb.ac.length c7,.slice A8 x.bb.af.length c8,.slice A9 x.dO.length c9]:=by
 rw[oV];exact⟨_,_,rfl,rfl,_,_,rfl,rfl,_,_,rfl,rfl,_,_,rfl,(by rw[gM];exact⟨_,_,rfl,rfl,_,_,rfl,rfl,_,_,rfl,rfl,_,_,rfl,rfl,_,_,rfl,(Sli.rep h7),_,_,rfl,(Sli.rep h8),rfl⟩),_,_,rfl,(Sli.rep h9),rfl⟩
structure TH0 where
 av:Bs
 ab:Int
 fA:TG0
 fB:TG0
 fL:List TH0
abbrev lTH0 (x : TH0) (A7 : Option Addr) (c7 : Nat) (A13 : Option Addr) (c13 : Nat) (A14 : Option Addr) (c14 : Nat) : List Value := [S x.av, .int .i8 x.ab, .int .i8 x.fA.ab, S x.fA.aa, .int .i64 x.fA.ak, S x.fA.av, S x.fA.aF, .slice A7 x.fA.fL.length c7, .int .i8 x.fB.ab, S x.fB.aa, .int .i64 x.fB.ak, S x.fB.av, S x.fB.aF, .slice A13 x.fB.fL.length c13, .slice A14 x.fL.length c14]
abbrev aTH0 (x : TH0) (A7 : Option Addr) (c7 : Nat) (A13 : Option Addr) (c13 : Nat) (A14 : Option Addr) (c14 : Nat) : Array Value := #[S x.av, .int .i8 x.ab, .int .i8 x.fA.ab, S x.fA.aa, .int .i64 x.fA.ak, S x.fA.av, S x.fA.aF, .slice A7 x.fA.fL.length c7, .int .i8 x.fB.ab, S x.fB.aa, .int .i64 x.fB.ak, S x.fB.av, S x.fB.aF, .slice A13 x.fB.fL.length c13, .slice A14 x.fL.length c14]
mutual
def aH:TH0→Dat
 |⟨x0,x1,x2,x3,x4⟩=>.struct [Dat.str x0,(Dat.int .i8) x1,aA x2,aA x3,.list 15 (nE x4)]
def nE:List TH0→List Dat
 |[]=>[]
 |x::r=>aH x::nE r
end
theorem qQ: ∀l:List TH0,nE l=l.map aH
 |[]=>by simp[nE]
 |x::r=>by simp[nE,qQ r]
theorem oX (x:TH0):aH x=.struct [Dat.str x.av,(Dat.int .i8) x.ab,aA x.fA,aA x.fB,(eL 15 aH) x.fL]:=by
 cases x
 simp[aH,eL,qQ]
theorem dH (x:TH0):Szd 15 (aH x):=by rw[oX];exact(bq (bH _) (bq ((nh .i8) _) (bq (bT _) (bq (bT _) (bq ((λ_=>io _ _) _) ln)))))
theorem TH0.opn {M:Mem} {x:TH0} {cs:Lv} (h:Rep M (aH x) cs): ∃ (A7:Oa) (c7:Nat) (A13:Oa) (c13:Nat) (A14:Oa) (c14:Nat),cs=[S x.av,.int .i8 x.ab,.int .i8 x.fA.ab,S x.fA.aa,.int .i64 x.fA.ak,S x.fA.av,S x.fA.aF,.slice A7 x.fA.fL.length c7,.int .i8 x.fB.ab,S x.fB.aa,.int .i64 x.fB.ak,S x.fB.av,S x.fB.aF,.slice A13 x.fB.fL.length c13,.slice A14 x.fL.length c14]∧Sli M 6 aA A7 c7 x.fA.fL∧Sli M 6 aA A13 c13 x.fB.fL∧Sli M 15 aH A14 c14 x.fL:=by
 rw[oX] at h
 obtain⟨_,_,rfl,rfl,_,_,rfl,rfl,_,_,rfl,q0,_,_,rfl,q1,_,_,rfl,h14,rfl⟩:=h
 rw[gn] at q0
 obtain⟨_,_,rfl,rfl,_,_,rfl,rfl,_,_,rfl,rfl,_,_,rfl,rfl,_,_,rfl,rfl,_,_,rfl,h7,rfl⟩:=q0
 rw[gn] at q1
 obtain⟨_,_,rfl,rfl,_,_,rfl,rfl,_,_,rfl,rfl,_,_,rfl,rfl,_,_,rfl,rfl,_,_,rfl,h13,rfl⟩:=q1
 obtain⟨A7,c7,rfl,z7⟩:=Rep.sli h7
 obtain⟨A13,c13,rfl,z13⟩:=Rep.sli h13
 obtain⟨A14,c14,rfl,z14⟩:=Rep.sli h14
 exact⟨A7,c7,A13,c13,A14,c14,rfl,z7,z13,z14⟩
theorem TH0.shutx {M:Mem} {x:TH0} {A7:Oa} {c7:Nat} {A13:Oa} {c13:Nat} {A14:Oa} {c14:Nat} (h7:Sli M 6 aA A7 c7 x.fA.fL) (h13:Sli M 6 aA A13 c13 x.fB.fL) (h14:Sli M 15 aH A14 c14 x.fL):Rep M (aH x) [S x.av,.int .i8 x.ab,.int .i8 x.fA.ab,S x.fA.aa,.int .i64 x.fA.ak,S x.fA.av,S x.fA.aF,.slice A7 x.fA.fL.length c7,.int .i8 x.fB.ab,S x.fB.aa,.int .i64 x.fB.ak,S x.fB.av,S x.fB.aF,.slice A13 x.fB.fL.length c13,.slice A14 x.fL.length c14]:=by
 rw[oX];exact⟨_,_,rfl,rfl,_,_,rfl,rfl,_,_,rfl,(by rw[gn];exact⟨_,_,rfl,rfl,_,_,rfl,rfl,_,_,rfl,rfl,_,_,rfl,rfl,_,_,rfl,rfl,_,_,rfl,(Sli.rep h7),rfl⟩),_,_,rfl,(by rw[gn];exact⟨_,_,rfl,rfl,_,_,rfl,rfl,_,_,rfl,rfl,_,_,rfl,rfl,_,_,rfl,rfl,_,_,rfl,(Sli.rep h13),rfl⟩),_,_,rfl,(Sli.rep h14),rfl⟩
structure TF0 where
 av:Bs
 fE:TG0
abbrev lTF0 (x : TF0) (A6 : Option Addr) (c6 : Nat) : List Value := [S x.av, .int .i8 x.fE.ab, S x.fE.aa, .int .i64 x.fE.ak, S x.fE.av, S x.fE.aF, .slice A6 x.fE.fL.length c6]
abbrev aTF0 (x : TF0) (A6 : Option Addr) (c6 : Nat) : Array Value := #[S x.av, .int .i8 x.fE.ab, S x.fE.aa, .int .i64 x.fE.ak, S x.fE.av, S x.fE.aF, .slice A6 x.fE.fL.length c6]
def cI:TF0→Dat
 |⟨x0,x1⟩=>.struct [Dat.str x0,aA x1]
theorem oW (x:TF0):cI x=.struct [Dat.str x.av,aA x.fE]:=by
 cases x
 simp[cI,eL]
theorem rA (x:TF0):Szd 7 (cI x):=by rw[oW];exact(bq (bH _) (bq (bT _) ln))
theorem TF0.opn {M:Mem} {x:TF0} {cs:Lv} (h:Rep M (cI x) cs): ∃ (A6:Oa) (c6:Nat),cs=[S x.av,.int .i8 x.fE.ab,S x.fE.aa,.int .i64 x.fE.ak,S x.fE.av,S x.fE.aF,.slice A6 x.fE.fL.length c6]∧Sli M 6 aA A6 c6 x.fE.fL:=by
 rw[oW] at h
 obtain⟨_,_,rfl,rfl,_,_,rfl,q0,rfl⟩:=h
 rw[gn] at q0
 obtain⟨_,_,rfl,rfl,_,_,rfl,rfl,_,_,rfl,rfl,_,_,rfl,rfl,_,_,rfl,rfl,_,_,rfl,h6,rfl⟩:=q0
 obtain⟨A6,c6,rfl,z6⟩:=Rep.sli h6
 exact⟨A6,c6,rfl,z6⟩
theorem TF0.shutx {M:Mem} {x:TF0} {A6:Oa} {c6:Nat} (h6:Sli M 6 aA A6 c6 x.fE.fL):Rep M (cI x) [S x.av,.int .i8 x.fE.ab,S x.fE.aa,.int .i64 x.fE.ak,S x.fE.av,S x.fE.aF,.slice A6 x.fE.fL.length c6]:=by
 rw[oW];exact⟨_,_,rfl,rfl,_,_,rfl,(by rw[gn];exact⟨_,_,rfl,rfl,_,_,rfl,rfl,_,_,rfl,rfl,_,_,rfl,rfl,_,_,rfl,rfl,_,_,rfl,(Sli.rep h6),rfl⟩),rfl⟩
structure TC0 where
 av:Bs
 gp:Bs
 fE:TG0
abbrev lTC0 (x : TC0) (A7 : Option Addr) (c7 : Nat) : List Value := [S x.av, S x.gp, .int .i8 x.fE.ab, S x.fE.aa, .int .i64 x.fE.ak, S x.fE.av, S x.fE.aF, .slice A7 x.fE.fL.length c7]
abbrev aTC0 (x : TC0) (A7 : Option Addr) (c7 : Nat) : Array Value := #[S x.av, S x.gp, .int .i8 x.fE.ab, S x.fE.aa, .int .i64 x.fE.ak, S x.fE.av, S x.fE.aF, .slice A7 x.fE.fL.length c7]
def bc:TC0→Dat
 |⟨x0,x1,x2⟩=>.struct [Dat.str x0,Dat.str x1,aA x2]
theorem oU (x:TC0):bc x=.struct [Dat.str x.av,Dat.str x.gp,aA x.fE]:=by
 cases x
 simp[bc,eL]
theorem ry (x:TC0):Szd 8 (bc x):=by rw[oU];exact(bq (bH _) (bq (bH _) (bq (bT _) ln)))
theorem TC0.opn {M:Mem} {x:TC0} {cs:Lv} (h:Rep M (bc x) cs): ∃ (A7:Oa) (c7:Nat),cs=[S x.av,S x.gp,.int .i8 x.fE.ab,S x.fE.aa,.int .i64 x.fE.ak,S x.fE.av,S x.fE.aF,.slice A7 x.fE.fL.length c7]∧Sli M 6 aA A7 c7 x.fE.fL:=by
 rw[oU] at h
 obtain⟨_,_,rfl,rfl,_,_,rfl,rfl,_,_,rfl,q0,rfl⟩:=h
 rw[gn] at q0
 obtain⟨_,_,rfl,rfl,_,_,rfl,rfl,_,_,rfl,rfl,_,_,rfl,rfl,_,_,rfl,rfl,_,_,rfl,h7,rfl⟩:=q0
 obtain⟨A7,c7,rfl,z7⟩:=Rep.sli h7
 exact⟨A7,c7,rfl,z7⟩
theorem TC0.shutx {M:Mem} {x:TC0} {A7:Oa} {c7:Nat} (h7:Sli M 6 aA A7 c7 x.fE.fL):Rep M (bc x) [S x.av,S x.gp,.int .i8 x.fE.ab,S x.fE.aa,.int .i64 x.fE.ak,S x.fE.av,S x.fE.aF,.slice A7 x.fE.fL.length c7]:=by
 rw[oU];exact⟨_,_,rfl,rfl,_,_,rfl,rfl,_,_,rfl,(by rw[gn];exact⟨_,_,rfl,rfl,_,_,rfl,rfl,_,_,rfl,rfl,_,_,rfl,rfl,_,_,rfl,rfl,_,_,rfl,(Sli.rep h7),rfl⟩),rfl⟩
mutual
structure TA0 where
 tU:Bs
 lz:Bs
 gp:Bs
 kb:List TF0
 df:List Bs
 jp:Bool
 gq:List TB0
structure TB0 where
 ca:List TD0
 cD:List TH0
 iI:List TA0
 ee:List TC0
end
abbrev lTA0 (x : TA0) (A3 : Option Addr) (c3 : Nat) (A4 : Option Addr) (c4 : Nat) (A6 : Option Addr) (c6 : Nat) : List Value := [S x.tU, S x.lz, S x.gp, .slice A3 x.kb.length c3, .slice A4 x.df.length c4, .bool x.jp, .slice A6 x.gq.length c6]
abbrev aTA0 (x : TA0) (A3 : Option Addr) (c3 : Nat) (A4 : Option Addr) (c4 : Nat) (A6 : Option Addr) (c6 : Nat) : Array Value := #[S x.tU, S x.lz, S x.gp, .slice A3 x.kb.length c3, .slice A4 x.df.length c4, .bool x.jp, .slice A6 x.gq.length c6]
abbrev lTB0 (x : TB0) (A0 : Option Addr) (c0 : Nat) (A1 : Option Addr) (c1 : Nat) (A2 : Option Addr) (c2 : Nat) (A3 : Option Addr) (c3 : Nat) : List Value := [.slice A0 x.ca.length c0, .slice A1 x.cD.length c1, .slice A2 x.iI.length c2, .slice A3 x.ee.length c3]
abbrev aTB0 (x : TB0) (A0 : Option Addr) (c0 : Nat) (A1 : Option Addr) (c1 : Nat) (A2 : Option Addr) (c2 : Nat) (A3 : Option Addr) (c3 : Nat) : Array Value := #[.slice A0 x.ca.length c0, .slice A1 x.cD.length c1, .slice A2 x.iI.length c2, .slice A3 x.ee.length c3]
mutual
def aY:TA0→Dat
 |⟨x0,x1,x2,x3,x4,x5,x6⟩=>.struct [Dat.str x0,Dat.str x1,Dat.str x2,(eL 7 cI) x3,(eL 1 Dat.str) x4,Dat.bool x5,.list 4 (nA x6)]
def ny:List TA0→List Dat
 |[]=>[]
 |x::r=>aY x::ny r
def bB:TB0→Dat
 |⟨x0,x1,x2,x3⟩=>.struct [(eL 10 ba) x0,(eL 15 aH) x1,.list 7 (ny x2),(eL 8 bc) x3]
def nA:List TB0→List Dat
 |[]=>[]
 |x::r=>bB x::nA r
end
theorem nz: ∀l:List TA0,ny l=l.map aY
 |[]=>by simp[ny]
 |x::r=>by simp[ny,nz r]
theorem nB: ∀l:List TB0,nA l=l.map bB
 |[]=>by simp[nA]
 |x::r=>by simp[nA,nB r]
theorem oS (x:TA0):aY x=.struct [Dat.str x.tU,Dat.str x.lz,Dat.str x.gp,(eL 7 cI) x.kb,(eL 1 Dat.str) x.df,Dat.bool x.jp,(eL 4 bB) x.gq]:=by
 cases x
 simp[aY,eL,nz,nB]
theorem rx (x:TA0):Szd 7 (aY x):=by rw[oS];exact(bq (bH _) (bq (bH _) (bq (bH _) (bq ((λ_=>io _ _) _) (bq ((λ_=>io _ _) _) (bq (qg _) (bq ((λ_=>io _ _) _) ln)))))))
theorem TA0.opn {M:Mem} {x:TA0} {cs:Lv} (h:Rep M (aY x) cs): ∃ (A3:Oa) (c3:Nat) (A4:Oa) (c4:Nat) (A6:Oa) (c6:Nat),cs=[S x.tU,S x.lz,S x.gp,.slice A3 x.kb.length c3,.slice A4 x.df.length c4,.bool x.jp,.slice A6 x.gq.length c6]∧Sli M 7 cI A3 c3 x.kb∧Sli M 1 Dat.str A4 c4 x.df∧Sli M 4 bB A6 c6 x.gq:=by
 rw[oS] at h
 obtain⟨_,_,rfl,rfl,_,_,rfl,rfl,_,_,rfl,rfl,_,_,rfl,h3,_,_,rfl,h4,_,_,rfl,rfl,_,_,rfl,h6,rfl⟩:=h
 obtain⟨A3,c3,rfl,z3⟩:=Rep.sli h3
 obtain⟨A4,c4,rfl,z4⟩:=Rep.sli h4
 obtain⟨A6,c6,rfl,z6⟩:=Rep.sli h6
 exact⟨A3,c3,A4,c4,A6,c6,rfl,z3,z4,z6⟩
theorem TA0.shutx {M:Mem} {x:TA0} {A3:Oa} {c3:Nat} {A4:Oa} {c4:Nat} {A6:Oa} {c6:Nat} (h3:Sli M 7 cI A3 c3 x.kb) (h4:Sli M 1 Dat.str A4 c4 x.df) (h6:Sli M 4 bB A6 c6 x.gq):Rep M (aY x) [S x.tU,S x.lz,S x.gp,.slice A3 x.kb.length c3,.slice A4 x.df.length c4,.bool x.jp,.slice A6 x.gq.length c6]:=by
 rw[oS];exact⟨_,_,rfl,rfl,_,_,rfl,rfl,_,_,rfl,rfl,_,_,rfl,(Sli.rep h3),_,_,rfl,(Sli.rep h4),_,_,rfl,rfl,_,_,rfl,(Sli.rep h6),rfl⟩
theorem oT (x:TB0):bB x=.struct [(eL 10 ba) x.ca,(eL 15 aH) x.cD,(eL 7 aY) x.iI,(eL 8 bc) x.ee]:=by
 cases x
 simp[bB,eL,nz,nB]
theorem ng (x:TB0):Szd 4 (bB x):=by rw[oT];exact(bq ((λ_=>io _ _) _) (bq ((λ_=>io _ _) _) (bq ((λ_=>io _ _) _) (bq ((λ_=>io _ _) _) ln))))
theorem TB0.opn {M:Mem} {x:TB0} {cs:Lv} (h:Rep M (bB x) cs): ∃ (A0:Oa) (c0:Nat) (A1:Oa) (c1:Nat) (A2:Oa) (c2:Nat) (A3:Oa) (c3:Nat),cs=[.slice A0 x.ca.length c0,.slice A1 x.cD.length c1,.slice A2 x.iI.length c2,.slice A3 x.ee.length c3]∧Sli M 10 ba A0 c0 x.ca∧Sli M 15 aH A1 c1 x.cD∧Sli M 7 aY A2 c2 x.iI∧Sli M 8 bc A3 c3 x.ee:=by
 rw[oT] at h
 obtain⟨_,_,rfl,h0,_,_,rfl,h1,_,_,rfl,h2,_,_,rfl,h3,rfl⟩:=h
 obtain⟨A0,c0,rfl,z0⟩:=Rep.sli h0
 obtain⟨A1,c1,rfl,z1⟩:=Rep.sli h1
 obtain⟨A2,c2,rfl,z2⟩:=Rep.sli h2
 obtain⟨A3,c3,rfl,z3⟩:=Rep.sli h3
 exact⟨A0,c0,A1,c1,A2,c2,A3,c3,rfl,z0,z1,z2,z3⟩
theorem TB0.shutx {M:Mem} {x:TB0} {A0:Oa} {c0:Nat} {A1:Oa} {c1:Nat} {A2:Oa} {c2:Nat} {A3:Oa} {c3:Nat} (h0:Sli M 10 ba A0 c0 x.ca) (h1:Sli M 15 aH A1 c1 x.cD) (h2:Sli M 7 aY A2 c2 x.iI) (h3:Sli M 8 bc A3 c3 x.ee):Rep M (bB x) [.slice A0 x.ca.length c0,.slice A1 x.cD.length c1,.slice A2 x.iI.length c2,.slice A3 x.ee.length c3]:=by
 rw[oT];exact⟨_,_,rfl,(Sli.rep h0),_,_,rfl,(Sli.rep h1),_,_,rfl,(Sli.rep h2),_,_,rfl,(Sli.rep h3),rfl⟩
structure aD where
 key:Bs
 v:TE0
def cC:aD→Dat
 |⟨x0,x1⟩=>.struct [Dat.str x0,ai x1]
theorem iH (x:aD):cC x=.struct [Dat.str x.key,ai x.v]:=by
 cases x
 simp[cC,eL]
theorem em (x:aD):Szd 7 (cC x):=by rw[iH];exact(bq (bH _) (bq (jx _) ln))
theorem aD.opn {M:Mem} {x:aD} {cs:Lv} (h:Rep M (cC x) cs): ∃ (A5:Oa) (c5:Nat) (A6:Oa) (c6:Nat),cs=[S x.key,.int .i8 x.v.ab,.bool x.v.an,.int .i64 x.v.ak,S x.v.aa,.slice A5 x.v.ac.length c5,.slice A6 x.v.af.length c6]∧Sli M 6 ai A5 c5 x.v.ac∧Sli M 1 Dat.str A6 c6 x.v.af:=by
 rw[iH] at h
 obtain⟨_,_,rfl,rfl,_,_,rfl,q0,rfl⟩:=h
 rw[gM] at q0
 obtain⟨_,_,rfl,rfl,_,_,rfl,rfl,_,_,rfl,rfl,_,_,rfl,rfl,_,_,rfl,h5,_,_,rfl,h6,rfl⟩:=q0
 obtain⟨A5,c5,rfl,z5⟩:=Rep.sli h5
 obtain⟨A6,c6,rfl,z6⟩:=Rep.sli h6
 exact⟨A5,c5,A6,c6,rfl,z5,z6⟩
theorem aD.shutx {M:Mem} {x:aD} {A5:Oa} {c5:Nat} {A6:Oa} {c6:Nat} (h5:Sli M 6 ai A5 c5 x.v.ac) (h6:Sli M 1 Dat.str A6 c6 x.v.af):Rep M (cC x) [S x.key,.int .i8 x.v.ab,.bool x.v.an,.int .i64 x.v.ak,S x.v.aa,.slice A5 x.v.ac.length c5,.slice A6 x.v.af.length c6]:=by
 rw[iH];exact⟨_,_,rfl,rfl,_,_,rfl,(by rw[gM];exact⟨_,_,rfl,rfl,_,_,rfl,rfl,_,_,rfl,rfl,_,_,rfl,rfl,_,_,rfl,(Sli.rep h5),_,_,rfl,(Sli.rep h6),rfl⟩),rfl⟩
abbrev oO:TE0:=(⟨(0:Int),(false),(0:Int),([]:Bs),([]:List TE0),([]:List Bs)⟩:TE0)
abbrev aQ:TG0:=(⟨(0:Int),([]:Bs),(0:Int),([]:Bs),([]:Bs),([]:List TG0)⟩:TG0)
abbrev ra:TB0:=(⟨([]:List TD0),([]:List TH0),([]:List TA0),([]:List TC0)⟩:TB0)
def eq (n:Nat) (d0:Bs) (d1:Int) (G5:Int×Int×Int) (K1:Int×Int):Option (Lp (Int×Int) (Sum Unit Int)):=
    bif(decide (K1.2<G5.1)) then
     (aL (inR .i64 (d1+K1.2))<|
     (aB d0 (d1+K1.2)).bind λie=>
     ((bif(decide (((ie).toNat:Int)<128)) then
      (some ((true)))
       else
        some ((decide ((191:Int)<((ie).toNat:Int)))):Option Bool)).bind λG6=>
     bif G6 then
      (some (.br (.inl ())))
     else
      aL (inR .i64 ((64:Int)*K1.1))<|
      aL (inR .i64 (((64:Int)*K1.1)+ ((ie).toNat:Int)))<|
      aL (inR .i64 ((((64:Int)*K1.1)+ ((ie).toNat:Int))-128))<|
      aL (inR .i64 (K1.2+1))<|
      some (.nx ((((64:Int)*K1.1)+ ((ie).toNat:Int))-128,K1.2+1)))
    else
     some (.br (.inr K1.1))
def mx (n:Nat) (d0:Bs) (d1:Int):Option (Int×Int):=
 ((bif(decide (d1<0)) then
  (some ((true)))
   else
    some ((decide ((d0.length:Int)≤d1))):Option Bool)).bind λG1=>
 bif G1 then
  (some (((0:Int),(0:Int))))
 else
  (aB d0 d1).bind λdW=>
  ((bif(decide (((dW).toNat:Int)<128)) then
   (((some ((((dW).toNat:Int),(1:Int))):Option (Int×Int))).map Lp.br)
    else
     ((bif(decide ((192:Int)≤((dW).toNat:Int))) then
      (some ((decide (((dW).toNat:Int)<224))))
       else
        some ((false)):Option Bool)).bind λG2=>
     bif G2 then
      (some (.nx ((2:Int),bAnd .i64 ((dW).toNat:Int) (31:Int),(128:Int))))
     else
      ((bif(decide ((224:Int)≤((dW).toNat:Int))) then
       (some ((decide (((dW).toNat:Int)<240))))
        else
         some ((false)):Option Bool)).bind λG3=>
      bif G3 then
       (some (.nx ((3:Int),bAnd .i64 ((dW).toNat:Int) (15:Int),(2048:Int))))
      else
       ((bif(decide ((240:Int)≤((dW).toNat:Int))) then
        (some ((decide (((dW).toNat:Int)<248))))
         else
          some ((false)):Option Bool)).bind λG4=>
       bif G4 then
        (some (.nx ((4:Int),bAnd .i64 ((dW).toNat:Int) (7:Int),(65536:Int))))
       else
        ((some (((0:Int),(0:Int))):Option (Int×Int))).map Lp.br:Option (Lp (Int×Int×Int) (Int×Int)))).bind λj=>joinF j λG5=>
  aL (inR .i64 (d1+G5.1))<|
  bif(decide ((d0.length:Int)<(d1+G5.1))) then
   (some (((0:Int),(0:Int))))
  else
   (au (eq n d0 d1 G5) n (G5.2.1,(1:Int))).bind λQ1=>
   (match Q1 with
   |.inl G7=>some (((0:Int),(0:Int)))
   |.inr G8=>((bif(decide (G8<G5.2.2)) then
    (some ((true)))
    else
     bif(decide ((1114111:Int)<G8)) then
      (some ((true)))
     else
      bif(decide ((55296:Int)≤G8)) then
       (some ((decide (G8≤57343))))
      else
       some ((false)):Option Bool)).bind λG9=>
    bif G9 then
     (some (((0:Int),(0:Int))))
    else
     some ((G8,G5.1)))
set_option maxRecDepth 20000 in
theorem ref01_One_ok (n:Nat) (M:Mem) (d0:Bs) (d1:Int) (r:Int×Int) (hF:mx n d0 d1=some r):Ok Tryz.prog M 125 [S d0,iL d1] (λ_ v=>v=.tuple #[iL r.1,iL r.2]):=by
 unfold mx at hF
 intro M1 hM0 w0 H w p0
 refine Re 101 Tryz.func125 rfl λa0 f0=>RR (Ye f0 2 λ_ f=>ah (ah ?_))
 obtain⟨eF,cL,F1⟩:=bS hF
 refine aW (λa_5 W1=>∃G1,eF=G1∧∃V1,M1.le V1∧Frm 101 ((19,bO G1)::kpL [0,1] f.fr) a_5∧Hp w0 V1 (H) W1) ?_ ?_
 ·refine ay (Y f 3 λ_ f=>?_)
  rcases cE cL with⟨B1,F2⟩|⟨B1,F3⟩
  ·have f:=f.st 14 (cB B1)
   refine Ye f 5 λ_ f=>?_
   exact⟨_,(sI F2).symm,M1,mL,f.kp,p0.kr⟩
  have f:=f.st 14 (cB B1)
  refine Ye f 5 λ_ f=>?_
  exact⟨_,(sI F3).symm,M1,mL,f.kp,p0.kr⟩
 rintro a_5 W1 ⟨G1,eS,V1,J1,f,N1⟩
 subst eF
 refine az (RcF f F1 (λB2 F4=>?_) λB2 F5=>?_)
 ·refine RR (Ye f 2 λ_ f=>wp_ret (bl (jR f rfl (Lk 4 (iL 0)) (Lk 5 (iL 0)) ?_)))
  cases sI F4
  exact⟨_,rfl,_,J1,N1.kr,rfl⟩
 refine St (RR (Y f 2 λ_ f=>?_))
 obtain⟨dW,l1,F6⟩:=bS F5
 refine Z f (dN rfl (l:=d0) (k:=.i64) (i:=d1) kr kr kr (eW l1) (eV l1)) λ_ f=>?_
 have f:=Frm.set f 22 (v:=.int .u8 ((d0.getD d1.toNat 0).toNat:Int)) (v':=.int .u8 ((dW).toNat:Int)) kr (congrArg (λc:UInt8=>Value.int .u8 ((c.toNat:Nat):Int)) (eG l1))
 refine Y f 1 λ_ f=>?_
 have f:=Frm.set f 23 (v:=iL (IntKind.wrap .i64 (((dW).toNat:Int)))) (v':=iL ((dW).toNat:Int)) kr (congrArg (Value.int .i64) (qJ _ (by simp) _))
 refine Ye f 1 λ_ f=>RR (Ye f 4 λ_ f=>ah ?_)
 obtain⟨lb,iJ,F7⟩:=bS F6
 refine aW (λa_36 W5=>∃G5,lb=.nx G5∧∃V5,V1.le V5∧Frm 101 ((7,iL G5.1)::(8,iL G5.2.1)::(9,iL G5.2.2)::kpL [0,1] f.fr) a_36∧Hp w0 V5 (H) W5) ?_ ?_
 ·refine wp_block (RR (Ye f 3 λ_ f=>RcF f iJ (λB3 F8=>?_) λB3 F10=>?_))
  ·refine RR (Ye f 3 λ_ f=>wp_ret (eu ?_))
   have F9:=bw F8 F7
   refine bl (bl (jR f rfl (Lk 4 (iL ((dW).toNat:Int))) (Lk 5 (iL 1)) ?_))
   cases sI F9
   exact⟨_,rfl,_,J1,N1.kr,rfl⟩
  refine ah ?_
  obtain⟨ns,la,F11⟩:=bS F10
  refine aW (λa_17 W2=>∃G2,ns=G2∧∃V2,V1.le V2∧Frm 101 ((29,bO G2)::kpL [0,1,6] f.fr) a_17∧Hp w0 V2 (H) W2) ?_ ?_
  ·refine ay (Y f 3 λ_ f=>?_)
   rcases cE la with⟨B4,F12⟩|⟨B4,F13⟩
   ·have f:=f.st 32 (cB B4)
    refine Ye f 4 λ_ f=>?_
    exact⟨_,(sI F12).symm,_,mL,f.kp,N1.kr⟩
   have f:=f.st 32 (cB B4)
   refine Ye f 4 λ_ f=>?_
   exact⟨_,(sI F13).symm,_,mL,f.kp,N1.kr⟩
  rintro a_17 W2 ⟨G2,hZ,V2,J2,f,N2⟩
  subst ns
  refine az (RcF f F11 (λB5 F14=>?_) λB5 F15=>?_)
  ·refine RR (Ye f 1 λ_ f=>RR (Ye f 3 λ_ f=>ay (Y f 1 λ_ f=>ag rfl (ec (az ?_)))))
   exact⟨_,(sI F14).symm,_,J2,f.kp,N2.kr⟩
  refine ah ?_
  obtain⟨qh,mK,F16⟩:=bS F15
  refine aW (λa_24 W3=>∃G3,qh=G3∧∃V3,V2.le V3∧Frm 101 ((38,bO G3)::kpL [0,1,6] f.fr) a_24∧Hp w0 V3 (H) W3) ?_ ?_
  ·refine ay (Y f 3 λ_ f=>?_)
   rcases cE mK with⟨B6,F17⟩|⟨B6,F18⟩
   ·have f:=f.st 41 (cB B6)
    refine Ye f 4 λ_ f=>?_
    exact⟨_,(sI F17).symm,_,mL,f.kp,N2.kr⟩
   have f:=f.st 41 (cB B6)
   refine Ye f 4 λ_ f=>?_
   exact⟨_,(sI F18).symm,_,mL,f.kp,N2.kr⟩
  rintro a_24 W3 ⟨G3,qt,V3,J3,f,N3⟩
  subst qh
  refine az (RcF f F16 (λB7 F19=>?_) λB7 F20=>?_)
  ·refine RR (Ye f 1 λ_ f=>RR (Ye f 3 λ_ f=>ay (Y f 1 λ_ f=>ag rfl (ec (az ?_)))))
   exact⟨_,(sI F19).symm,_,mL,f.kp,N3.kr⟩
  refine ah ?_
  obtain⟨j_5,hj_5,F21⟩:=bS F20
  refine aW (λa_31 W4=>∃G4,j_5=G4∧∃V4,V3.le V4∧Frm 101 ((47,bO G4)::kpL [0,1,6] f.fr) a_31∧Hp w0 V4 (H) W4) ?_ ?_
  ·refine ay (Y f 3 λ_ f=>?_)
   rcases cE hj_5 with⟨B8,F22⟩|⟨B8,F23⟩
   ·have f:=f.st 50 (cB B8)
    refine Ye f 4 λ_ f=>?_
    exact⟨_,(sI F22).symm,_,mL,f.kp,N3.kr⟩
   have f:=f.st 50 (cB B8)
   refine Ye f 4 λ_ f=>?_
   exact⟨_,(sI F23).symm,_,mL,f.kp,N3.kr⟩
  rintro a_31 W4 ⟨G4,rY,V4,J4,f,N4⟩
  subst j_5
  refine az (RcF f F21 (λB9 F24=>?_) λB9 F25=>?_)
  ·refine RR (Ye f 1 λ_ f=>RR (Ye f 3 λ_ f=>ay (Y f 1 λ_ f=>ag rfl (ec (az ?_)))))
   exact⟨_,(sI F24).symm,_,mL,f.kp,N4.kr⟩
  refine RR (Ye f 2 λ_ f=>wp_ret (eu ?_))
  have F26:=bw F25 F7
  refine bl (bl (jR f rfl (Lk 4 (iL 0)) (Lk 5 (iL 0)) ?_))
  cases sI F26
  exact⟨_,rfl,_,mL,N4.kr,rfl⟩
 rintro a_36 W5 ⟨G5,rfl,V5,J5,f,N5⟩
 refine az (ah (RR (Y f 2 λ_ f=>?_)))
 obtain⟨O1,F27⟩:=nS F7
 refine Y f 1 λ_ f=>?_
 have f:=f.st 58 (iW O1)
 refine Ye f 3 λ_ f=>RcF f F27 (λB10 F28=>?_) λB10 F29=>?_
 ·refine RR (Ye f 2 λ_ f=>wp_ret (bl (jR f rfl (Lk 4 (iL 0)) (Lk 5 (iL 0)) ?_)))
  cases sI F28
  exact⟨_,rfl,_,mL,N5.kr,rfl⟩
 refine St (ah (RR (Ye f 1 λ_ f=>wp_block ?_)))
 obtain⟨Q1,ce,F30⟩:=bS F29
 refine wp_mono (Q:=λe a w=>(e=.ret∧(∃G7,Q1=.inl G7∧∃V8,V5.le V8∧Frm 101 [(4,iL 0),(5,iL 0)] a∧Hp w0 V8 (H) w))∨(e=.exit 1∧(∃G8,Q1=.inr G8∧∃V9,V5.le V9∧Frm 101 ((8,iL G8)::kpL [7,9] f.fr) a∧Hp w0 V9 (H) w))) (aZ (σ:=(Int×Int)) (λx=>match x with|(I1,K1)=>(((8,iL K1.1)::(10,iL K1.2)::kpL [0,1,7,9] f.fr),(H),λMM=>au (eq n d0 d1 G5) I1 K1=some Q1)) (n,(G5.2.1,(1:Int))) (f.kp) N5.kr ce ?_) ?_
 ·rintro⟨I1,K1⟩ V6 _ W6 J6 gL f N6
  have ci:=gL
  obtain⟨I2,lT,rfl,bg,T1⟩:=aK ci
  unfold eq at bg
  refine ah (RR (Ye f 3 λ_ f=>RcF f bg (λB11 F31=>?_) λB11 F43=>?_))
  ·refine St (ah (wp_block (RR (Y f 3 λ_ f=>?_))))
   obtain⟨O2,F32⟩:=nS F31
   refine Y f 1 λ_ f=>?_
   have f:=f.st 70 (iW O2)
   obtain⟨ie,l2,F33⟩:=bS F32
   refine Z f (dN rfl (l:=d0) (k:=.i64) (i:=d1+K1.2) kr kr kr (eW l2) (eV l2)) λ_ f=>?_
   have f:=Frm.set f 71 (v:=.int .u8 ((d0.getD (d1+K1.2).toNat 0).toNat:Int)) (v':=.int .u8 ((ie).toNat:Int)) kr (congrArg (λc:UInt8=>Value.int .u8 ((c.toNat:Nat):Int)) (eG l2))
   refine Y f 1 λ_ f=>?_
   have f:=Frm.set f 72 (v:=iL (IntKind.wrap .i64 (((ie).toNat:Int)))) (v':=iL ((ie).toNat:Int)) kr (congrArg (Value.int .i64) (qJ _ (by simp) _))
   refine Ye f 1 λ_ f=>ah (ah ?_)
   obtain⟨j_6,hj_6,F34⟩:=bS F33
   refine aW (λa_52 W7=>∃G6,j_6=G6∧∃V7,V6.le V7∧Frm 101 ((78,bO G6)::kpL [0,1,7,8,9,10,11] f.fr) a_52∧Hp w0 V7 (H) W7) ?_ ?_
   ·refine ay (Y f 3 λ_ f=>?_)
    rcases cE hj_6 with⟨B12,F35⟩|⟨B12,F36⟩
    ·have f:=f.st 75 (cB B12)
     refine Ye f 3 λ_ f=>?_
     exact⟨_,(sI F35).symm,_,mL,f.kp,N6.kr⟩
    have f:=f.st 75 (cB B12)
    refine Ye f 3 λ_ f=>?_
    exact⟨_,(sI F36).symm,_,mL,f.kp,N6.kr⟩
   rintro a_52 W7 ⟨G6,hq_6,V7,J7,f,N7⟩
   subst j_6
   refine az (RcF f F34 (λB13 F37=>?_) λB13 F38=>?_)
   ·refine RR (Ye f 2 λ_ f=>wp_ret (bl (eu (bl (bl ?_)))))
    cases sI F37
    exact .inl ⟨rfl,_,(sI T1).symm,_,mL,f.kp,N7.kr⟩
   refine St (ay (Y f 1 λ_ f=>?_))
   obtain⟨O3,F39⟩:=nS F38
   refine Y f 1 λ_ f=>?_
   have f:=f.st 80 (iW O3)
   refine Y f 1 λ_ f=>?_
   obtain⟨O4,F40⟩:=nS F39
   refine Y f 1 λ_ f=>?_
   have f:=f.st 82 (iW O4)
   obtain⟨O5,F41⟩:=nS F40
   refine Y f 1 λ_ f=>?_
   have f:=f.st 83 (iW O5)
   refine Y f 1 λ_ f=>ag rfl (ec (az (ay (Y f 1 λ_ f=>?_))))
   obtain⟨O6,F42⟩:=nS F41
   refine Y f 1 λ_ f=>?_
   have f:=f.st 66 (iW O6)
   refine Ye f 1 λ_ f=>?_
   cases sI F42
   exact⟨⟨_,_⟩,Nat.lt_succ_self _,_,mL,T1,f.kp,N7.kr⟩
  refine wp_exit (dJ (dJ ?_))
  cases sI F43
  exact .inr ⟨rfl,_,(sI T1).symm,_,J6,f.kp,N6.kr⟩
 rintro _ _ W10 (⟨rfl,G7,rfl,V8,J8,f,N8⟩|⟨rfl,G8,rfl,V9,J9,f,N9⟩)
 ·refine eu (bl (jR f rfl (Lk 4 (iL 0)) (Lk 5 (iL 0)) ?_))
  cases sI F30
  exact⟨_,rfl,_,mL,N8.kr,rfl⟩
 refine jV (az (ah (ah ?_)))
 obtain⟨j_7,hj_7,F44⟩:=bS F30
 refine aW (λa_73 W11=>∃G9,j_7=G9∧∃V10,V9.le V10∧Frm 101 ((98,bO G9)::kpL [7,8] f.fr) a_73∧Hp w0 V10 (H) W11) ?_ ?_
 ·refine ay (Y f 4 λ_ f=>?_)
  rcases cE hj_7 with⟨B14,F45⟩|⟨B14,F46⟩
  ·have f:=f.st 87 (cB B14)
   refine Ye f 11 λ_ f=>?_
   exact⟨_,(sI F45).symm,_,mL,f.kp,N9.kr⟩
  have f:=f.st 87 (cB B14)
  refine Y f 4 λ_ f=>?_
  rcases cE F46 with⟨B15,F47⟩|⟨B15,F48⟩
  ·have f:=f.st 91 (cB B15)
   refine Ye f 7 λ_ f=>?_
   exact⟨_,(sI F47).symm,_,mL,f.kp,N9.kr⟩
  have f:=f.st 91 (cB B15)
  refine Y f 3 λ_ f=>?_
  rcases cE F48 with⟨B16,F49⟩|⟨B16,F50⟩
  ·have f:=f.st 94 (cB B16)
   refine Ye f 4 λ_ f=>?_
   exact⟨_,(sI F49).symm,_,mL,f.kp,N9.kr⟩
  have f:=f.st 94 (cB B16)
  refine Ye f 4 λ_ f=>?_
  exact⟨_,(sI F50).symm,_,mL,f.kp,N9.kr⟩
 rintro a_73 W11 ⟨G9,hq_7,V10,J10,f,N10⟩
 subst j_7
 refine az (RcF f F44 (λB17 F51=>?_) λB17 F52=>?_)
 ·refine RR (Ye f 2 λ_ f=>wp_ret (bl (jR f rfl (Lk 4 (iL 0)) (Lk 5 (iL 0)) ?_)))
  cases sI F51
  exact⟨_,rfl,_,mL,N10.kr,rfl⟩
 refine St (RR (Ye f 4 λ_ f=>wp_ret (jR f rfl (Lk 4 (iL G8)) (Lk 5 (iL G5.1)) ?_)))
 cases sI F52
 exact⟨_,rfl,_,mL,N10.kr,rfl⟩
def ey (n:Nat) (d0:Bs) (K1:Int):Option (Lp Int (Sum Unit Unit)):=
    bif(decide (K1<(d0.length:Int))) then
     ((mx n d0 K1).bind λX1=>
     bif(decide (X1.2=0)) then
      (some (.br (.inl ())))
     else
      aL (inR .i64 (K1+X1.2))<|
      some (.nx (K1+X1.2)))
    else
     some (.br (.inr ()))
def hP (n:Nat) (d0:Bs):Option Bool:=
 (au (ey n d0) n (0:Int)).bind λQ1=>
 (match Q1 with
 |.inl G1=>some ((false))
 |.inr G2=>some ((true)))
theorem kf (n:Nat) (M:Mem) (d0:Bs) (r:Bool) (hF:hP n d0=some r):Ok Tryz.prog M 86 [S d0] (λ_ v=>v=bO r):=by
 unfold hP at hF
 intro M1 hM0 w0 H w p0
 refine Re 21 Tryz.func86 rfl λa0 f0=>RR (Ye f0 1 λ_ f=>RR (Ye f 1 λ_ f=>ah (wp_block ?_)))
 obtain⟨Q1,ce,F1⟩:=bS hF
 refine wp_mono (Q:=λe a w=>(e=.ret∧(∃G1,Q1=.inl G1∧∃V2,M1.le V2∧Frm 21 [(2,bO false)] a∧Hp w0 V2 (H) w))∨(e=.exit 0∧(∃G2,Q1=.inr G2∧∃V3,M1.le V3∧Frm 21 [] a∧Hp w0 V3 (H) w))) (aZ (σ:=Int) (λx=>match x with|(I1,K1)=>([(0,S d0),(3,iL K1)],(H),λMM=>au (ey n d0) I1 K1=some Q1)) (n,(0:Int)) (f.kp) p0.kr ce ?_) ?_
 ·rintro⟨I1,K1⟩ V1 _ W1 J1 gL f N1
  have ci:=gL
  obtain⟨I2,lT,rfl,bg,T1⟩:=aK ci
  unfold ey at bg
  refine ah (RR (Ye f 4 λ_ f=>RcF f bg (λB1 F2=>?_) λB1 F7=>?_))
  ·refine St (wp_block (RR (Y f 2 λ_ f=>?_)))
   obtain⟨X1,l1,F3⟩:=bS F2
   refine Y9 f N1 (ref01_One_ok n _ d0 K1 X1 l1) λW2 N2 _ f=>Ye f 5 λ_ f=>ah (RR (Ye f 2 λ_ f=>RcF f F3 (λB2 F4=>?_) λB2 F5=>?_))
   ·refine RR (Ye f 1 λ_ f=>wp_ret (bl (eu (bl ?_))))
    cases sI F4
    exact .inl ⟨rfl,_,(sI T1).symm,_,J1,f.kp,N2.kr⟩
   refine St (ay (Y f 2 λ_ f=>?_))
   obtain⟨O1,F6⟩:=nS F5
   refine Y f 1 λ_ f=>?_
   have f:=f.st 20 (iW O1)
   refine Y f 1 λ_ f=>ag rfl (ec (az ?_))
   cases sI F6
   exact⟨⟨_,_⟩,Nat.lt_succ_self _,_,J1,T1,f.kp,N2.kr⟩
  refine wp_exit (dJ (dJ ?_))
  cases sI F7
  exact .inr ⟨rfl,_,(sI T1).symm,_,J1,f.kp,N1.kr⟩
 rintro _ _ W5 (⟨rfl,G1,rfl,V2,J2,f,N3⟩|⟨rfl,G2,rfl,V3,J3,f,N4⟩)
 ·refine eu (bl (am f rfl (Lk 2 (bO false)) ?_))
  cases sI F1
  exact⟨_,rfl,_,J2,N3.kr,rfl⟩
 refine jV (az (RR (Ye f 1 λ_ f=>wp_ret (am f rfl (Lk 2 (bO true)) ?_))))
 cases sI F1
 exact⟨_,rfl,_,J3,N4.kr,rfl⟩
def jq (n:Nat) (d0:Int):Option Bool:=
 bif(decide ((97:Int)≤d0)) then
  (bif(decide (d0≤122)) then
   (some ((true)))
  else
   bif(decide ((65:Int)≤d0)) then
    (some ((decide (d0≤90))))
   else
    some ((false)))
 else
  bif(decide ((65:Int)≤d0)) then
   (some ((decide (d0≤90))))
  else
   some ((false))
theorem np (n:Nat) (M:Mem) (d0:Int) (r:Bool) (hF:jq n d0=some r):Ok Tryz.prog M 103 [.int .u8 d0] (λ_ v=>v=bO r):=by
 unfold jq at hF
 intro M1 hM0 w0 H w p0
 refine Re 17 Tryz.func103 rfl λa0 f0=>RR (Ye f0 1 λ_ f=>RR (Y f 3 λ_ f=>?_))
 rcases cE hF with⟨B1,F1⟩|⟨B1,F6⟩
 ·have f:=f.st 5 (cB B1)
  refine Y f 4 λ_ f=>?_
  rcases cE F1 with⟨B2,F2⟩|⟨B2,F3⟩
  ·have f:=f.st 9 (cB B2)
   refine Ye f 8 λ_ f=>wp_ret (am f rfl (Lk 2 (bO true)) ?_)
   cases sI F2
   exact⟨_,rfl,M1,mL,p0.kr,rfl⟩
  have f:=f.st 9 (cB B2)
  refine Y f 3 λ_ f=>?_
  rcases cE F3 with⟨B3,F4⟩|⟨B3,F5⟩
  ·have f:=f.st 12 (cB B3)
   refine Ye f 5 λ_ f=>wp_ret (am f rfl (Lk 2 (bO (decide (d0≤90)))) ?_)
   cases sI F4
   exact⟨_,rfl,M1,mL,p0.kr,rfl⟩
  have f:=f.st 12 (cB B3)
  refine Ye f 5 λ_ f=>wp_ret (am f rfl (Lk 2 (bO false)) ?_)
  cases sI F5
  exact⟨_,rfl,M1,mL,p0.kr,rfl⟩
 have f:=f.st 5 (cB B1)
 refine Y f 7 λ_ f=>?_
 rcases cE F6 with⟨B4,F7⟩|⟨B4,F8⟩
 ·have f:=f.st 12 (cB B4)
  refine Ye f 5 λ_ f=>wp_ret (am f rfl (Lk 2 (bO (decide (d0≤90)))) ?_)
  cases sI F7
  exact⟨_,rfl,M1,mL,p0.kr,rfl⟩
 have f:=f.st 12 (cB B4)
 refine Ye f 5 λ_ f=>wp_ret (am f rfl (Lk 2 (bO false)) ?_)
 cases sI F8
 exact⟨_,rfl,M1,mL,p0.kr,rfl⟩
def kR (n:Nat) (d0:Int):Option Bool:=
 bif(decide ((48:Int)≤d0)) then
  (some ((decide (d0≤57))))
 else
  some ((false))
theorem sp (n:Nat) (M:Mem) (d0:Int) (r:Bool) (hF:kR n d0=some r):Ok Tryz.prog M 104 [.int .u8 d0] (λ_ v=>v=bO r):=by
 unfold kR at hF
 intro M1 hM0 w0 H w p0
 refine Re 9 Tryz.func104 rfl λa0 f0=>RR (Ye f0 1 λ_ f=>RR (Y f 3 λ_ f=>?_))
 rcases cE hF with⟨B1,F1⟩|⟨B1,F2⟩
 ·have f:=f.st 5 (cB B1)
  refine Ye f 4 λ_ f=>wp_ret (am f rfl (Lk 2 (bO (decide (d0≤57)))) ?_)
  cases sI F1
  exact⟨_,rfl,M1,mL,p0.kr,rfl⟩
 have f:=f.st 5 (cB B1)
 refine Ye f 4 λ_ f=>wp_ret (am f rfl (Lk 2 (bO false)) ?_)
 cases sI F2
 exact⟨_,rfl,M1,mL,p0.kr,rfl⟩
def iq (n:Nat) (d0:Bs) (K1:Int):Option (Lp Int (Sum Unit Unit)):=
    bif(decide (K1<(d0.length:Int))) then
     ((aB d0 K1).bind λie=>
     (jq n ((ie).toNat:Int)).bind λX2=>
     bif !X2 then
      ((aB d0 K1).bind λlQ=>
      (kR n ((lQ).toNat:Int)).bind λX3=>
      bif !X3 then
       (some (.br (.inl ())))
      else
       aL (inR .i64 (K1+1))<|
       some (.nx (K1+1)))
     else
      aL (inR .i64 (K1+1))<|
      some (.nx (K1+1)))
    else
     some (.br (.inr ()))
def gt (n:Nat) (d0:Bs):Option Bool:=
 ((bif(decide ((d0.length:Int)<1)) then
  (some ((true)))
   else
    bif(decide ((32:Int)<(d0.length:Int))) then
     (some ((true)))
    else
     (aB d0 (0:Int)).bind λdW=>
     (jq n ((dW).toNat:Int)).bind λX1=>
     some ((!X1)):Option Bool)).bind λG1=>
 bif G1 then
  (some ((false)))
 else
  (au (iq n d0) n (0:Int)).bind λQ1=>
  (match Q1 with
  |.inl G2=>some ((false))
  |.inr G3=>some ((true)))
set_option maxRecDepth 20000 in
theorem gN (n:Nat) (M:Mem) (d0:Bs) (r:Bool) (hF:gt n d0=some r):Ok Tryz.prog M 60 [S d0] (λ_ v=>v=bO r):=by
 unfold gt at hF
 intro M1 hM0 w0 H w p0
 refine Re 36 Tryz.func60 rfl λa0 f0=>RR (Ye f0 1 λ_ f=>ah (ah ?_))
 obtain⟨eF,cL,F1⟩:=bS hF
 refine aW (λa_10 W2=>∃G1,eF=G1∧∃V1,M1.le V1∧Frm 36 [(0,S d0),(17,bO G1)] a_10∧Hp w0 V1 (H) W2) ?_ ?_
 ·refine ay (Y f 4 λ_ f=>?_)
  rcases cE cL with⟨B1,F2⟩|⟨B1,F3⟩
  ·have f:=f.st 7 (cB B1)
   refine Ye f 10 λ_ f=>?_
   exact⟨_,(sI F2).symm,M1,mL,f.kp,p0.kr⟩
  have f:=f.st 7 (cB B1)
  refine Y f 5 λ_ f=>?_
  rcases cE F3 with⟨B2,F4⟩|⟨B2,F5⟩
  ·have f:=f.st 12 (cB B2)
   refine Ye f 5 λ_ f=>?_
   exact⟨_,(sI F4).symm,M1,mL,f.kp,p0.kr⟩
  have f:=f.st 12 (cB B2)
  refine Y f 1 λ_ f=>?_
  obtain⟨dW,l1,F6⟩:=bS F5
  refine Z f (dN rfl (l:=d0) (k:=.i64) (i:=(0:Int)) kr kr kr (eW l1) (eV l1)) λ_ f=>?_
  have f:=Frm.set f 14 (v:=.int .u8 ((d0.getD (0:Int).toNat 0).toNat:Int)) (v':=.int .u8 ((dW).toNat:Int)) kr (congrArg (λc:UInt8=>Value.int .u8 ((c.toNat:Nat):Int)) (eG l1))
  obtain⟨X1,l2,F7⟩:=bS F6
  refine Y9 f p0 (np n _ ((dW).toNat:Int) X1 l2) λW1 N1 _ f=>Ye f 2 λ_ f=>?_
  exact⟨_,(sI F7).symm,M1,mL,f.kp,N1.kr⟩
 rintro a_10 W2 ⟨G1,eS,V1,J1,f,N2⟩
 subst eF
 refine az (RcF f F1 (λB3 F8=>?_) λB3 F9=>?_)
 ·refine RR (Ye f 1 λ_ f=>wp_ret (bl (am f rfl (Lk 2 (bO false)) ?_)))
  cases sI F8
  exact⟨_,rfl,_,J1,N2.kr,rfl⟩
 refine St (ah (RR (Ye f 1 λ_ f=>wp_block ?_)))
 obtain⟨Q1,ce,F10⟩:=bS F9
 refine wp_mono (Q:=λe a w=>(e=.ret∧(∃G2,Q1=.inl G2∧∃V3,V1.le V3∧Frm 36 [(2,bO false)] a∧Hp w0 V3 (H) w))∨(e=.exit 0∧(∃G3,Q1=.inr G3∧∃V4,V1.le V4∧Frm 36 [] a∧Hp w0 V4 (H) w))) (aZ (σ:=Int) (λx=>match x with|(I1,K1)=>([(0,S d0),(3,iL K1)],(H),λMM=>au (iq n d0) I1 K1=some Q1)) (n,(0:Int)) (f.kp) N2.kr ce ?_) ?_
 ·rintro⟨I1,K1⟩ V2 _ W3 J2 gL f N3
  have ci:=gL
  obtain⟨I2,lT,rfl,bg,T1⟩:=aK ci
  unfold iq at bg
  refine ah (RR (Ye f 4 λ_ f=>RcF f bg (λB4 F11=>?_) λB4 F22=>?_))
  ·refine St (ah (wp_block (RR (Y f 2 λ_ f=>?_))))
   obtain⟨ie,l3,F12⟩:=bS F11
   refine Z f (dN rfl (l:=d0) (k:=.i64) (i:=K1) kr kr kr (eW l3) (eV l3)) λ_ f=>?_
   have f:=Frm.set f 26 (v:=.int .u8 ((d0.getD K1.toNat 0).toNat:Int)) (v':=.int .u8 ((ie).toNat:Int)) kr (congrArg (λc:UInt8=>Value.int .u8 ((c.toNat:Nat):Int)) (eG l3))
   obtain⟨X2,l4,F13⟩:=bS F12
   refine Y9 f N3 (np n _ ((ie).toNat:Int) X2 l4) λW4 N4 _ f=>Y f 2 λ_ f=>?_
   rcases cE F13 with⟨B5,F14⟩|⟨B5,F20⟩
   ·have f:=f.st 29 (cB B5)
    refine Y f 2 λ_ f=>?_
    obtain⟨lQ,l5,F15⟩:=bS F14
    refine Z f (dN rfl (l:=d0) (k:=.i64) (i:=K1) kr kr kr (eW l5) (eV l5)) λ_ f=>?_
    have f:=Frm.set f 32 (v:=.int .u8 ((d0.getD K1.toNat 0).toNat:Int)) (v':=.int .u8 ((lQ).toNat:Int)) kr (congrArg (λc:UInt8=>Value.int .u8 ((c.toNat:Nat):Int)) (eG l5))
    obtain⟨X3,l6,F16⟩:=bS F15
    refine Y9 f N4 (sp n _ ((lQ).toNat:Int) X3 l6) λW5 N5 _ f=>Ye f 2 λ_ f=>RcF f F16 (λB6 F17=>?_) λB6 F18=>?_
    ·refine RR (Ye f 1 λ_ f=>wp_ret (eu (bl (bl ?_))))
     cases sI F17
     exact .inl ⟨rfl,_,(sI T1).symm,_,J2,f.kp,N5.kr⟩
    refine wp_skip (ec (az (ay (Y f 1 λ_ f=>?_))))
    obtain⟨O1,F19⟩:=nS F18
    refine Y f 1 λ_ f=>?_
    have f:=f.st 23 (iW O1)
    refine Ye f 1 λ_ f=>?_
    cases sI F19
    exact⟨⟨_,_⟩,Nat.lt_succ_self _,_,J2,T1,f.kp,N5.kr⟩
   have f:=f.st 29 (cB B5)
   refine Ye f 6 λ_ f=>jE f kr kr (wp_skip (ec (az (ay (Y f 1 λ_ f=>?_)))))
   obtain⟨O2,F21⟩:=nS F20
   refine Y f 1 λ_ f=>?_
   have f:=f.st 23 (iW O2)
   refine Ye f 1 λ_ f=>?_
   cases sI F21
   exact⟨⟨_,_⟩,Nat.lt_succ_self _,_,J2,T1,f.kp,N4.kr⟩
  refine wp_exit (dJ (dJ ?_))
  cases sI F22
  exact .inr ⟨rfl,_,(sI T1).symm,_,J2,f.kp,N3.kr⟩
 rintro _ _ W8 (⟨rfl,G2,rfl,V3,J3,f,N6⟩|⟨rfl,G3,rfl,V4,J4,f,N7⟩)
 ·refine eu (bl (am f rfl (Lk 2 (bO false)) ?_))
  cases sI F10
  exact⟨_,rfl,_,mL,N6.kr,rfl⟩
 refine jV (az (RR (Ye f 1 λ_ f=>wp_ret (am f rfl (Lk 2 (bO true)) ?_))))
 cases sI F10
 exact⟨_,rfl,_,mL,N7.kr,rfl⟩
def js (n:Nat) (d0:Bs) (K1:Int):Option (Lp Int (Sum Int Unit)):=
    bif(decide (K1<(d0.length:Int))) then
     ((aB d0 K1).bind λdW=>
     bif(decide (((dW).toNat:Int)=46)) then
      (some (.br (.inl K1)))
     else
      aL (inR .i64 (K1+1))<|
      some (.nx (K1+1)))
    else
     some (.br (.inr ()))
def lq (n:Nat) (d0:Bs):Option Int:=
 (au (js n d0) n (0:Int)).bind λQ1=>
 (match Q1 with
 |.inl G1=>some (G1)
 |.inr G2=>some ((-1:Int)))
theorem pY (n:Nat) (M:Mem) (d0:Bs) (r:Int) (hF:lq n d0=some r):Ok Tryz.prog M 128 [S d0] (λ_ v=>v=iL r):=by
 unfold lq at hF
 intro M1 hM0 w0 H w p0
 refine Re 15 Tryz.func128 rfl λa0 f0=>RR (Ye f0 1 λ_ f=>ah (RR (Ye f 1 λ_ f=>wp_block ?_)))
 obtain⟨Q1,ce,F1⟩:=bS hF
 refine wp_mono (Q:=λe a w=>(e=.ret∧(∃G1,Q1=.inl G1∧∃V2,M1.le V2∧Frm 15 [(2,iL G1)] a∧Hp w0 V2 (H) w))∨(e=.exit 0∧(∃G2,Q1=.inr G2∧∃V3,M1.le V3∧Frm 15 [] a∧Hp w0 V3 (H) w))) (aZ (σ:=Int) (λx=>match x with|(I1,K1)=>([(0,S d0),(3,iL K1)],(H),λMM=>au (js n d0) I1 K1=some Q1)) (n,(0:Int)) (f.kp) p0.kr ce ?_) ?_
 ·rintro⟨I1,K1⟩ V1 _ W1 J1 gL f N1
  have ci:=gL
  obtain⟨I2,lT,rfl,bg,T1⟩:=aK ci
  unfold js at bg
  refine ah (RR (Ye f 4 λ_ f=>RcF f bg (λB1 F2=>?_) λB1 F7=>?_))
  ·refine St (ah (wp_block (RR (Y f 2 λ_ f=>?_))))
   obtain⟨dW,l1,F3⟩:=bS F2
   refine Z f (dN rfl (l:=d0) (k:=.i64) (i:=K1) kr kr kr (eW l1) (eV l1)) λ_ f=>?_
   have f:=Frm.set f 12 (v:=.int .u8 ((d0.getD K1.toNat 0).toNat:Int)) (v':=.int .u8 ((dW).toNat:Int)) kr (congrArg (λc:UInt8=>Value.int .u8 ((c.toNat:Nat):Int)) (eG l1))
   refine Ye f 1 λ_ f=>RcF f F3 (λB2 F4=>?_) λB2 F5=>?_
   ·refine RR (Ye f 2 λ_ f=>wp_ret (eu (bl (bl ?_))))
    cases sI F4
    exact .inl ⟨rfl,_,(sI T1).symm,_,J1,f.kp,N1.kr⟩
   refine wp_skip (ec (az (ay (Y f 1 λ_ f=>?_))))
   obtain⟨O1,F6⟩:=nS F5
   refine Y f 1 λ_ f=>?_
   have f:=f.st 9 (iW O1)
   refine Ye f 1 λ_ f=>?_
   cases sI F6
   exact⟨⟨_,_⟩,Nat.lt_succ_self _,_,J1,T1,f.kp,N1.kr⟩
  refine wp_exit (dJ (dJ ?_))
  cases sI F7
  exact .inr ⟨rfl,_,(sI T1).symm,_,J1,f.kp,N1.kr⟩
 rintro _ _ W4 (⟨rfl,G1,rfl,V2,J2,f,N2⟩|⟨rfl,G2,rfl,V3,J3,f,N3⟩)
 ·refine eu (bl (am f rfl (Lk 2 (iL G1)) ?_))
  cases sI F1
  exact⟨_,rfl,_,J2,N2.kr,rfl⟩
 refine jV (az (RR (Ye f 1 λ_ f=>wp_ret (am f rfl (Lk 2 (iL (-1))) ?_))))
 cases sI F1
 exact⟨_,rfl,_,J3,N3.kr,rfl⟩
def iv (n:Nat) (d0:Bs) (K1:Int):Option (Lp Int (Sum Int Unit)):=
    bif(decide (K1<(d0.length:Int))) then
     ((aB d0 K1).bind λdW=>
     bif(decide (((dW).toNat:Int)=125)) then
      (some (.br (.inl K1)))
     else
      aL (inR .i64 (K1+1))<|
      some (.nx (K1+1)))
    else
     some (.br (.inr ()))
def lF (n:Nat) (d0:Bs) (d1:Int):Option Int:=
 (au (iv n d0) n d1).bind λQ1=>
 (match Q1 with
 |.inl G1=>some (G1)
 |.inr G2=>some ((-1:Int)))
theorem sW (n:Nat) (M:Mem) (d0:Bs) (d1:Int) (r:Int) (hF:lF n d0 d1=some r):Ok Tryz.prog M 129 [S d0,iL d1] (λ_ v=>v=iL r):=by
 unfold lF at hF
 intro M1 hM0 w0 H w p0
 refine Re 18 Tryz.func129 rfl λa0 f0=>RR (Ye f0 1 λ_ f=>ah (RR (Ye f 2 λ_ f=>wp_block ?_)))
 obtain⟨Q1,ce,F1⟩:=bS hF
 refine wp_mono (Q:=λe a w=>(e=.ret∧(∃G1,Q1=.inl G1∧∃V2,M1.le V2∧Frm 18 [(4,iL G1)] a∧Hp w0 V2 (H) w))∨(e=.exit 0∧(∃G2,Q1=.inr G2∧∃V3,M1.le V3∧Frm 18 [] a∧Hp w0 V3 (H) w))) (aZ (σ:=Int) (λx=>match x with|(I1,K1)=>([(0,S d0),(5,iL K1)],(H),λMM=>au (iv n d0) I1 K1=some Q1)) (n,d1) (f.kp) p0.kr ce ?_) ?_
 ·rintro⟨I1,K1⟩ V1 _ W1 J1 gL f N1
  have ci:=gL
  obtain⟨I2,lT,rfl,bg,T1⟩:=aK ci
  unfold iv at bg
  refine ah (RR (Ye f 4 λ_ f=>RcF f bg (λB1 F2=>?_) λB1 F7=>?_))
  ·refine St (ah (wp_block (RR (Y f 2 λ_ f=>?_))))
   obtain⟨dW,l1,F3⟩:=bS F2
   refine Z f (dN rfl (l:=d0) (k:=.i64) (i:=K1) kr kr kr (eW l1) (eV l1)) λ_ f=>?_
   have f:=Frm.set f 15 (v:=.int .u8 ((d0.getD K1.toNat 0).toNat:Int)) (v':=.int .u8 ((dW).toNat:Int)) kr (congrArg (λc:UInt8=>Value.int .u8 ((c.toNat:Nat):Int)) (eG l1))
   refine Ye f 1 λ_ f=>RcF f F3 (λB2 F4=>?_) λB2 F5=>?_
   ·refine RR (Ye f 2 λ_ f=>wp_ret (eu (bl (bl ?_))))
    cases sI F4
    exact .inl ⟨rfl,_,(sI T1).symm,_,J1,f.kp,N1.kr⟩
   refine wp_skip (ec (az (ay (Y f 1 λ_ f=>?_))))
   obtain⟨O1,F6⟩:=nS F5
   refine Y f 1 λ_ f=>?_
   have f:=f.st 12 (iW O1)
   refine Ye f 1 λ_ f=>?_
   cases sI F6
   exact⟨⟨_,_⟩,Nat.lt_succ_self _,_,J1,T1,f.kp,N1.kr⟩
  refine wp_exit (dJ (dJ ?_))
  cases sI F7
  exact .inr ⟨rfl,_,(sI T1).symm,_,J1,f.kp,N1.kr⟩
 rintro _ _ W4 (⟨rfl,G1,rfl,V2,J2,f,N2⟩|⟨rfl,G2,rfl,V3,J3,f,N3⟩)
 ·refine eu (bl (am f rfl (Lk 4 (iL G1)) ?_))
  cases sI F1
  exact⟨_,rfl,_,J2,N2.kr,rfl⟩
 refine jV (az (RR (Ye f 1 λ_ f=>wp_ret (am f rfl (Lk 4 (iL (-1))) ?_))))
 cases sI F1
 exact⟨_,rfl,_,J3,N3.kr,rfl⟩
def jS (n:Nat) (d0:Bs):Option Bool:=
 (lq n d0).bind λX1=>
 bif(decide (X1<0)) then
  ((gt n d0).bind λX2=>
  some ((X2)))
 else
  aL (0≤X1∧X1≤d0.length)<|
  bif(decide ((d0.take X1.toNat)=[79,117,116,112,117,116,115])) then
   (aL (inR .i64 (X1+1))<|
   aL (0≤(X1+1)∧(X1+1)≤d0.length)<|
   (gt n (d0.drop (X1+1).toNat)).bind λX3=>
   some ((X3)))
  else
   some ((false))
theorem oI (n:Nat) (M:Mem) (d0:Bs) (r:Bool) (hF:jS n d0=some r):Ok Tryz.prog M 90 [S d0] (λ_ v=>v=bO r):=by
 unfold jS at hF
 intro M1 hM0 w0 H w p0
 refine Re 21 Tryz.func90 rfl λa0 f0=>RR (Ye f0 1 λ_ f=>RR (Y f 1 λ_ f=>?_))
 obtain⟨X1,l1,F1⟩:=bS hF
 refine Y9 f p0 (pY n _ d0 X1 l1) λW1 N1 _ f=>Ye f 1 λ_ f=>ah (RR (Ye f 2 λ_ f=>RcF f F1 (λB1 F2=>?_) λB1 F4=>?_))
 ·refine RR (Y f 1 λ_ f=>?_)
  obtain⟨X2,l2,F3⟩:=bS F2
  refine Y9 f N1 (gN n _ d0 X2 l2) λW2 N2 _ f=>Ye f 1 λ_ f=>wp_ret (bl (am f rfl (Lk 2 (bO X2)) ?_))
  cases sI F3
  exact⟨_,rfl,M1,mL,N2.kr,rfl⟩
 refine St (RR (Y f 2 λ_ f=>?_))
 obtain⟨O1,F5⟩:=nS F4
 refine Z (v:=S (d0.take X1.toNat)) f (X_strTo rfl (l:=d0) (k':=.i64) (b:=X1) kr kr kr O1.1 O1.2) λ_ f=>Z f (Y11 rfl (l:=d0.take X1.toNat) (m:=[79,117,116,112,117,116,115])) λ_ f=>Y f 1 λ_ f=>?_
 rcases cE F5 with⟨B2,F6⟩|⟨B2,F10⟩
 ·have f:=f.st 14 (cB B2)
  refine Y f 2 λ_ f=>?_
  obtain⟨O2,F7⟩:=nS F6
  refine Y f 1 λ_ f=>?_
  have f:=f.st 17 (iW O2)
  obtain⟨O3,F8⟩:=nS F7
  refine Z (v:=S (d0.drop (X1+1).toNat)) f (oh rfl (l:=d0) (k:=.i64) (a:=X1+1) kr kr kr O3.1 O3.2) λ_ f=>?_
  obtain⟨X3,l3,F9⟩:=bS F8
  refine Y9 f N1 (gN n _ (d0.drop (X1+1).toNat) X3 l3) λW3 N3 _ f=>Ye f 2 λ_ f=>wp_ret (am f rfl (Lk 2 (bO X3)) ?_)
  cases sI F9
  exact⟨_,rfl,M1,mL,N3.kr,rfl⟩
 have f:=f.st 14 (cB B2)
 refine Ye f 7 λ_ f=>wp_ret (am f rfl (Lk 2 (bO false)) ?_)
 cases sI F10
 exact⟨_,rfl,M1,mL,N1.kr,rfl⟩
def iC (n:Nat) (d0:Bs) (K1:Int):Option (Lp Int (Sum Unit Unit)):=
    bif(decide (K1<(d0.length:Int))) then
     ((aB d0 K1).bind λdW=>
     ((bif(decide ((97:Int)≤(bOr .u8 ((dW).toNat:Int) (32:Int)))) then
      (some ((decide ((bOr .u8 ((dW).toNat:Int) (32:Int))≤122))))
       else
        some ((false)):Option Bool)).bind λG1=>
     bif !G1 then
      (bif(decide (K1=0)) then
       (some (.br (.inl ())))
      else
       (aB d0 K1).bind λie=>
       bif(decide (((ie).toNat:Int)<48)) then
        (some (.br (.inl ())))
       else
        (aB d0 K1).bind λlQ=>
        bif(decide ((57:Int)<((lQ).toNat:Int))) then
         (some (.br (.inl ())))
        else
         aL (inR .i64 (K1+1))<|
         some (.nx (K1+1)))
     else
      aL (inR .i64 (K1+1))<|
      some (.nx (K1+1)))
    else
     some (.br (.inr ()))
def dz (n:Nat) (d0:Bs):Option Bool:=
 (au (iC n d0) n (0:Int)).bind λQ1=>
 (match Q1 with
 |.inl G2=>some ((false))
 |.inr G3=>bif(decide ((0:Int)<(d0.length:Int))) then
  (some ((decide ((d0.length:Int)≤32))))
  else
   some ((false)))
set_option maxRecDepth 20000 in
theorem dK (n:Nat) (M:Mem) (d0:Bs) (r:Bool) (hF:dz n d0=some r):Ok Tryz.prog M 48 [S d0] (λ_ v=>v=bO r):=by
 unfold dz at hF
 intro M1 hM0 w0 H w p0
 refine Re 48 Tryz.func48 rfl λa0 f0=>RR (Ye f0 1 λ_ f=>ah (RR (Ye f 3 λ_ f=>wp_block ?_)))
 obtain⟨Q1,ce,F1⟩:=bS hF
 refine wp_mono (Q:=λe a w=>(e=.ret∧(∃G2,Q1=.inl G2∧∃V3,M1.le V3∧Frm 48 [(2,bO false)] a∧Hp w0 V3 (H) w))∨(e=.exit 0∧(∃G3,Q1=.inr G3∧∃V4,M1.le V4∧Frm 48 [(0,S d0)] a∧Hp w0 V4 (H) w))) (aZ (σ:=Int) (λx=>match x with|(I1,K1)=>(((8,iL K1)::kpL [0,7] f.fr),(H),λMM=>au (iC n d0) I1 K1=some Q1)) (n,(0:Int)) (f.kp) p0.kr ce ?_) ?_
 ·rintro⟨I1,K1⟩ V1 _ W1 J1 gL f N1
  have ci:=gL
  obtain⟨I2,lT,rfl,bg,T1⟩:=aK ci
  unfold iC at bg
  refine RR (Ye f 1 λ_ f=>ah (RcF f bg (λB1 F2=>?_) λB1 F19=>?_))
  ·refine St (ah (wp_block (RR (Ye f 2 λ_ f=>RR (Y f 2 λ_ f=>?_)))))
   obtain⟨dW,l1,F3⟩:=bS F2
   refine Z f (dN rfl (l:=d0) (k:=.i64) (i:=K1) kr kr kr (eW l1) (eV l1)) λ_ f=>?_
   have f:=Frm.set f 13 (v:=.int .u8 ((d0.getD K1.toNat 0).toNat:Int)) (v':=.int .u8 ((dW).toNat:Int)) kr (congrArg (λc:UInt8=>Value.int .u8 ((c.toNat:Nat):Int)) (eG l1))
   refine Ye f 2 λ_ f=>ah ?_
   obtain⟨eF,cL,F4⟩:=bS F3
   refine aW (λa_12 W2=>∃G1,eF=G1∧∃V2,V1.le V2∧Frm 48 ((5,bO G1)::kpL [0,3,7,8] f.fr) a_12∧Hp w0 V2 (H) W2) ?_ ?_
   ·refine ay (Y f 3 λ_ f=>?_)
    rcases cE cL with⟨B2,F5⟩|⟨B2,F6⟩
    ·have f:=f.st 17 (cB B2)
     refine Ye f 4 λ_ f=>?_
     exact⟨_,(sI F5).symm,_,mL,f.kp,N1.kr⟩
    have f:=f.st 17 (cB B2)
    refine Ye f 4 λ_ f=>?_
    exact⟨_,(sI F6).symm,_,mL,f.kp,N1.kr⟩
   rintro a_12 W2 ⟨G1,eS,V2,J2,f,N2⟩
   subst eF
   refine az (RR (Y f 3 λ_ f=>?_))
   rcases cE F4 with⟨B3,F7⟩|⟨B3,F17⟩
   ·have f:=f.st 23 (cB B3)
    refine Y f 3 λ_ f=>?_
    rcases cE F7 with⟨B4,F8⟩|⟨B4,F9⟩
    ·have f:=f.st 26 (cB B4)
     refine Ye f 12 λ_ f=>iT f kr kr (RR (Ye f 1 λ_ f=>wp_ret (eu (bl (bl ?_)))))
     cases sI F8
     exact .inl ⟨rfl,_,(sI T1).symm,_,mL,f.kp,N2.kr⟩
    have f:=f.st 26 (cB B4)
    refine Y f 2 λ_ f=>?_
    obtain⟨ie,l2,F10⟩:=bS F9
    refine Z f (dN rfl (l:=d0) (k:=.i64) (i:=K1) kr kr kr (eW l2) (eV l2)) λ_ f=>?_
    have f:=Frm.set f 29 (v:=.int .u8 ((d0.getD K1.toNat 0).toNat:Int)) (v':=.int .u8 ((ie).toNat:Int)) kr (congrArg (λc:UInt8=>Value.int .u8 ((c.toNat:Nat):Int)) (eG l2))
    refine Y f 3 λ_ f=>?_
    rcases cE F10 with⟨B5,F11⟩|⟨B5,F12⟩
    ·have f:=f.st 32 (cB B5)
     refine Ye f 6 λ_ f=>iT f kr kr (RR (Ye f 1 λ_ f=>wp_ret (eu (bl (bl ?_)))))
     cases sI F11
     exact .inl ⟨rfl,_,(sI T1).symm,_,mL,f.kp,N2.kr⟩
    have f:=f.st 32 (cB B5)
    refine Y f 2 λ_ f=>?_
    obtain⟨lQ,l3,F13⟩:=bS F12
    refine Z f (dN rfl (l:=d0) (k:=.i64) (i:=K1) kr kr kr (eW l3) (eV l3)) λ_ f=>?_
    have f:=Frm.set f 35 (v:=.int .u8 ((d0.getD K1.toNat 0).toNat:Int)) (v':=.int .u8 ((lQ).toNat:Int)) kr (congrArg (λc:UInt8=>Value.int .u8 ((c.toNat:Nat):Int)) (eG l3))
    refine Ye f 3 λ_ f=>RcF f F13 (λB6 F14=>?_) λB6 F15=>?_
    ·refine RR (Ye f 1 λ_ f=>wp_ret (eu (bl (bl ?_))))
     cases sI F14
     exact .inl ⟨rfl,_,(sI T1).symm,_,mL,f.kp,N2.kr⟩
    refine wp_skip (ec (az (ay ?_)))
    obtain⟨O1,F16⟩:=nS F15
    refine Y f 1 λ_ f=>?_
    have f:=f.st 39 (iW O1)
    refine Ye f 1 λ_ f=>?_
    cases sI F16
    exact⟨⟨_,_⟩,Nat.lt_succ_self _,_,mL,T1,f.kp,N2.kr⟩
   have f:=f.st 23 (cB B3)
   refine Ye f 15 λ_ f=>jE f kr kr (wp_skip (ec (az (ay ?_))))
   obtain⟨O2,F18⟩:=nS F17
   refine Y f 1 λ_ f=>?_
   have f:=f.st 39 (iW O2)
   refine Ye f 1 λ_ f=>?_
   cases sI F18
   exact⟨⟨_,_⟩,Nat.lt_succ_self _,_,mL,T1,f.kp,N2.kr⟩
  refine wp_exit (dJ (dJ ?_))
  cases sI F19
  exact .inr ⟨rfl,_,(sI T1).symm,_,J1,f.kp,N1.kr⟩
 rintro _ _ W5 (⟨rfl,G2,rfl,V3,J3,f,N3⟩|⟨rfl,G3,rfl,V4,J4,f,N4⟩)
 ·refine eu (bl (am f rfl (Lk 2 (bO false)) ?_))
  cases sI F1
  exact⟨_,rfl,_,J3,N3.kr,rfl⟩
 refine jV (az (RR (Y f 4 λ_ f=>?_)))
 rcases cE F1 with⟨B7,F20⟩|⟨B7,F21⟩
 ·have f:=f.st 43 (cB B7)
  refine Ye f 5 λ_ f=>wp_ret (am f rfl (Lk 2 (bO (decide ((d0.length:Int)≤32)))) ?_)
  cases sI F20
  exact⟨_,rfl,_,J4,N4.kr,rfl⟩
 have f:=f.st 43 (cB B7)
 refine Ye f 5 λ_ f=>wp_ret (am f rfl (Lk 2 (bO false)) ?_)
 cases sI F21
 exact⟨_,rfl,_,J4,N4.kr,rfl⟩
def eP (n:Nat) (d0:TE0) (K1:Int×Int):Option (Lp (Int×Int) Int):=
    bif(decide (K1.2<((d0.af.length:Nat):Int))) then
     ((aB d0.af K1.2).bind λX1=>
     aL (inR .i64 (K1.1+ (min (X1.length:Int) (10000:Int))))<|
     aL (inR .i64 (K1.2+1))<|
     some (.nx (K1.1+ (min (X1.length:Int) (10000:Int)),K1.2+1)))
    else
     some (.br K1.1)
def dX (n:Nat) (rec_ref03_weight:TE0→Int→Option Int) (d0:TE0) (d1:Int) (K2:Int×Int):Option (Lp (Int×Int) Int):=
    ((bif(decide (K2.2<((d0.ac.length:Nat):Int))) then
     (some ((decide (K2.1≤10000))))
      else
       some ((false)):Option Bool)).bind λG3=>
    bif G3 then
     ((aB d0.ac K2.2).bind λX2=>
     aL (inR .i64 (d1-1))<|
     (rec_ref03_weight X2 (d1-1)).bind λX3=>
     aL (inR .i64 (K2.1+X3))<|
     aL (inR .i64 (K2.2+1))<|
     some (.nx (K2.1+X3,K2.2+1)))
    else
     some (.br K2.1)
def iY (n:Nat) (rec_ref03_weight:TE0→Int→Option Int) (d0:TE0) (d1:Int):Option Int:=
 ((bif(decide (d1=0)) then
  (some ((true)))
   else
    bif(decide ((3000:Int)<((d0.ac.length:Nat):Int))) then
     (some ((true)))
    else
     some ((decide ((3000:Int)<((d0.af.length:Nat):Int)))):Option Bool)).bind λG1=>
 bif G1 then
  (some ((10000:Int)))
 else
  aL (inR .i64 ((1:Int)+ (min (d0.aa.length:Int) (10000:Int))))<|
  (au (eP n d0) n ((1:Int)+ (min (d0.aa.length:Int) (10000:Int)),(0:Int))).bind λG2=>
  (au (dX n rec_ref03_weight d0 d1) n (G2,(0:Int))).bind λG4=>
  some (G4)
set_option maxRecDepth 20000 in
theorem pX (n:Nat) (rec_ref03_weight:TE0→Int→Option Int) (hrec_ref03_weight: ∀ (M:Mem) (c0:Lv) (d0:TE0) (h0:Rep M (ai d0) c0) (d1:Int) (r:Int) (hF:rec_ref03_weight d0 d1=some r),Ok Tryz.prog M 15 [.agg c0.toArray,iL d1] (λ_ v=>v=iL r)) (M:Mem) (c0:Lv) (d0:TE0) (h0:Rep M (ai d0) c0) (d1:Int) (r:Int) (hF:iY n rec_ref03_weight d0 d1=some r):Ok Tryz.prog M 15 [.agg c0.toArray,iL d1] (λ_ v=>v=iL r):=by
 unfold iY at hF
 intro M1 hM0 w0 H w p0
 replace h0:=Rep.mono hM0 _ _ h0
 obtain⟨Z1,P1,Z2,P2,rfl,B1,B2⟩:=TE0.opn h0
 refine Re 65 Tryz.func15 rfl λa0 f0=>RR (Y5 (cs:=(aTE0 d0 Z1 P1 Z2 P2)) (T:=26) f0 p0 λQ1 V1 W1 J1 R1 N1 _ f=>?_)
 have R2:=aU R1
 refine Ye f 1 λ_ f=>ah (ah ?_)
 obtain⟨eF,cL,F1⟩:=bS hF
 refine aW (λa_12 W2=>∃G1,eF=G1∧∃V2,V1.le V2∧Frm 65 ((21,bO G1)::kpL [1,2] f.fr) a_12∧Hp w0 V2 (H) W2) ?_ ?_
 ·refine ay (Y f 3 λ_ f=>?_)
  rcases cE cL with⟨B3,F2⟩|⟨B3,F3⟩
  ·have f:=f.st 10 (cB B3)
   refine Ye f 11 λ_ f=>?_
   exact⟨_,(sI F2).symm,_,mL,f.kp,N1.kr⟩
  have f:=f.st 10 (cB B3)
  refine Y f 1 λ_ f=>Y7 f N1 R2 4 rfl λ_ f=>Y f 4 λ_ f=>?_
  rcases cE F3 with⟨B4,F4⟩|⟨B4,F5⟩
  ·have f:=f.st 16 (cB B4)
   refine Ye f 5 λ_ f=>?_
   exact⟨_,(sI F4).symm,_,mL,f.kp,N1.kr⟩
  have f:=f.st 16 (cB B4)
  refine Y f 1 λ_ f=>Y7 f N1 R2 5 rfl λ_ f=>Ye f 3 λ_ f=>?_
  exact⟨_,(sI F5).symm,_,mL,f.kp,N1.kr⟩
 rintro a_12 W2 ⟨G1,eS,V2,J2,f,N2⟩
 subst eF
 refine az (RcF f F1 (λB5 F6=>?_) λB5 F7=>?_)
 ·refine RR (Ye f 1 λ_ f=>wp_ret (bl (am f rfl (Lk 4 (iL 10000)) ?_)))
  cases sI F6
  exact⟨_,rfl,_,mL,N2.kr,rfl⟩
 refine St (RR (Y f 1 λ_ f=>Y7 f N2 (fu R2) 3 rfl λ_ f=>Y f 1 λ_ f=>Z (v:=iL (min (d0.aa.length:Int) (10000:Int))) f (X_min (k:=.i64) (a:=(d0.aa.length:Int)) (b:=(10000:Int)) rfl kr kr) λ_ f=>?_))
 obtain⟨O1,F8⟩:=nS F7
 refine Y f 1 λ_ f=>?_
 have f:=f.st 26 (iW O1)
 refine Ye f 1 λ_ f=>ah (RR (Ye f 1 λ_ f=>wp_block ?_))
 obtain⟨Q2,ce,F9⟩:=bS F8
 refine wp_mono (Q:=λe a w=>(e=.exit 0∧(∃G2,Q2=G2∧∃V4,V2.le V4∧Frm 65 ((5,iL G2)::kpL [1,2] f.fr) a∧Hp w0 V4 (H) w))) (aZ (σ:=(Int×Int)) (λx=>match x with|(I1,K1)=>(((5,iL K1.1)::(6,iL K1.2)::kpL [1,2] f.fr),(H),λMM=>au (eP n d0) I1 K1=some Q2)) (n,((1:Int)+ (min (d0.aa.length:Int) (10000:Int)),(0:Int))) (f.kp) N2.kr ce ?_) ?_
 ·rintro⟨I1,K1⟩ V3 _ W3 J3 gL f N3
  have ci:=gL
  obtain⟨I2,lT,rfl,bg,T1⟩:=aK ci
  unfold eP at bg
  refine ah (RR (Y f 2 λ_ f=>Y7 f N3 (fu R2) 5 rfl λ_ f=>Ye f 2 λ_ f=>RcF f bg (λB6 F10=>?_) λB6 F14=>?_))
  ·refine St (ah (wp_block (ay (Y f 2 λ_ f=>Y7 f N3 (fu R2) 5 rfl λ_ f=>Y f 1 λ_ f=>?_))))
   obtain⟨X1,l1,F11⟩:=bS F10
   obtain⟨C1,dW,jC,D1,R3⟩:=N3.at_ B2 l1
   obtain rfl:dW=[S X1]:=D1
   refine Z f (XI jC l1) λ_ f=>Y7 f N3 R3 0 rfl λ_ f=>Y f 1 λ_ f=>Z (v:=iL (min (X1.length:Int) (10000:Int))) f (X_min (k:=.i64) (a:=(X1.length:Int)) (b:=(10000:Int)) rfl kr kr) λ_ f=>?_
   obtain⟨O2,F12⟩:=nS F11
   refine Y f 1 λ_ f=>?_
   have f:=f.st 42 (iW O2)
   refine Y f 1 λ_ f=>ag rfl (ec (az (ay (Y f 1 λ_ f=>?_))))
   obtain⟨O3,F13⟩:=nS F12
   refine Y f 1 λ_ f=>?_
   have f:=f.st 33 (iW O3)
   refine Ye f 1 λ_ f=>?_
   cases sI F13
   exact⟨⟨_,_⟩,Nat.lt_succ_self _,_,J3,T1,f.kp,N3.kr⟩
  refine wp_exit (dJ (dJ ?_))
  cases sI F14
  exact⟨rfl,_,(sI T1).symm,_,J3,f.kp,N3.kr⟩
 rintro _ _ W5 ⟨rfl,G2,hq_,V4,J4,f,N4⟩
 subst Q2
 refine jV (az (ah (RR (Ye f 1 λ_ f=>wp_block ?_))))
 obtain⟨Q3,nI,F15⟩:=bS F9
 refine wp_mono (Q:=λe a w=>(e=.exit 2∧(∃G4,Q3=G4∧∃V7,V4.le V7∧Frm 65 [(5,iL G4)] a∧Hp w0 V7 (H) w))) (aZ (σ:=(Int×Int)) (λx=>match x with|(I3,K2)=>(((5,iL K2.1)::(7,iL K2.2)::kpL [1,2] f.fr),(H),λMM=>au (dX n rec_ref03_weight d0 d1) I3 K2=some Q3)) (n,(G2,(0:Int))) (f.kp) N4.kr nI ?_) ?_
 ·rintro⟨I3,K2⟩ V5 _ W6 J5 I_2 f N5
  have nv:=I_2
  obtain⟨I4,r_2,rfl,kM,T2⟩:=aK nv
  unfold dX at kM
  refine ah (ah ?_)
  obtain⟨lb,iJ,F16⟩:=bS kM
  refine aW (λa_46 W7=>∃G3,lb=G3∧∃V6,V5.le V6∧Frm 65 ((51,bO G3)::kpL [1,2,5,7] f.fr) a_46∧Hp w0 V6 (H) W7) ?_ ?_
  ·refine ay (Y f 2 λ_ f=>Y7 f N5 (fu R2) 4 rfl λ_ f=>Y f 3 λ_ f=>?_)
   rcases cE iJ with⟨B7,F17⟩|⟨B7,F18⟩
   ·have f:=f.st 48 (cB B7)
    refine Ye f 3 λ_ f=>?_
    exact⟨_,(sI F17).symm,_,mL,f.kp,N5.kr⟩
   have f:=f.st 48 (cB B7)
   refine Ye f 3 λ_ f=>?_
   exact⟨_,(sI F18).symm,_,mL,f.kp,N5.kr⟩
  rintro a_46 W7 ⟨G3,hZ,V6,J6,f,N6⟩
  subst lb
  refine az (RcF f F16 (λB8 F19=>?_) λB8 F25=>?_)
  ·refine St (ah (wp_block (ay (Y f 2 λ_ f=>Y7 f N6 (fu R2) 4 rfl λ_ f=>Y f 1 λ_ f=>?_))))
   obtain⟨X2,l2,F20⟩:=bS F19
   obtain⟨C2,ie,ly,D2,R4⟩:=N6.at_ B1 l2
   obtain⟨Z3,P3,Z4,P4,rfl,B9,B10⟩:=TE0.opn D2
   refine Z f (XI ly l2) λ_ f=>Z f (XK N6 R4 0) λ_ f=>Y f 1 λ_ f=>?_
   obtain⟨O4,F21⟩:=nS F20
   refine Y f 1 λ_ f=>?_
   have f:=f.st 61 (iW O4)
   obtain⟨X3,l3,F22⟩:=bS F21
   refine Y9 f N6 (hrec_ref03_weight _ _ X2 D2.mo (d1-1) X3 l3) λW8 N7 _ f=>?_
   obtain⟨O5,F23⟩:=nS F22
   refine Y f 1 λ_ f=>?_
   have f:=f.st 63 (iW O5)
   refine Y f 1 λ_ f=>ag rfl (ec (az (ay (Y f 1 λ_ f=>?_))))
   obtain⟨O6,F24⟩:=nS F23
   refine Y f 1 λ_ f=>?_
   have f:=f.st 53 (iW O6)
   refine Ye f 1 λ_ f=>?_
   cases sI F24
   exact⟨⟨_,_⟩,Nat.lt_succ_self _,_,mL,T2,f.kp,N7.kr⟩
  refine wp_exit (dJ (dJ ?_))
  cases sI F25
  exact⟨rfl,_,(sI T2).symm,_,mL,f.kp,N6.kr⟩
 rintro _ _ W10 ⟨rfl,G4,hq_,V7,J7,f,N8⟩
 subst Q3
 refine jV (az (RR (Ye f 2 λ_ f=>wp_ret (am f rfl (Lk 4 (iL G4)) ?_))))
 cases sI F15
 exact⟨_,rfl,_,mL,N8.kr,rfl⟩
def dR (n:Nat):Nat→TE0→Int→Option Int
 |0=>λ_ _=>none
 |k+1=>iY n (dR n k)
def mV (n:Nat) (d0:TE0) (d1:Int):Option Int:=dR n n d0 d1
theorem rh (n:Nat) (M:Mem) (c0:Lv) (d0:TE0) (h0:Rep M (ai d0) c0) (d1:Int) (r:Int) (hF:mV n d0 d1=some r):Ok Tryz.prog M 15 [.agg c0.toArray,iL d1] (λ_ v=>v=iL r):=by
 have key: ∀ (k:Nat) (M:Mem) (c0:Lv) (d0:TE0) (h0:Rep M (ai d0) c0) (d1:Int) (r:Int) (hF:dR n k d0 d1=some r),Ok Tryz.prog M 15 [.agg c0.toArray,iL d1] (λ_ v=>v=iL r):=by
  intro k
  induction k with
  |zero=>intro M c0 d0 h0 d1 r hF;simp[dR] at hF
  |succ k ih=>intro M c0 d0 h0 d1 r hF;exact pX n (dR n k) ih M c0 d0 h0 d1 r hF
 exact key n M c0 d0 h0 d1 r hF
def jY (n:Nat) (d0:TE0):Option Bool:=
 (mV n d0 (30:Int)).bind λX1=>
 some ((decide ((5000:Int)<X1)))
theorem sr (n:Nat) (M:Mem) (c0:Lv) (d0:TE0) (h0:Rep M (ai d0) c0) (r:Bool) (hF:jY n d0=some r):Ok Tryz.prog M 6 [.agg c0.toArray] (λ_ v=>v=bO r):=by
 unfold jY at hF
 intro M1 hM0 w0 H w p0
 replace h0:=Rep.mono hM0 _ _ h0
 obtain⟨Z1,P1,Z2,P2,rfl,B1,B2⟩:=TE0.opn h0
 refine Re 6 Tryz.func6 rfl λa0 f0=>RR (Y5 (cs:=(aTE0 d0 Z1 P1 Z2 P2)) (T:=26) f0 p0 λQ1 V1 W1 J1 R1 N1 _ f=>?_)
 have R2:=aU R1
 refine Ye f 1 λ_ f=>RR (Z f (XK N1 R2 0) λ_ f=>?_)
 obtain⟨X1,l1,F1⟩:=bS hF
 refine Y9 f N1 (rh n _ _ d0 h0.mo (30:Int) X1 l1) λW2 N2 _ f=>Ye f 2 λ_ f=>wp_ret (am f rfl (Lk 2 (bO (decide ((5000:Int)<X1)))) ?_)
 cases sI F1
 exact⟨_,rfl,_,J1,N2.kr,rfl⟩
mutual
def dr:TE0→List TE0
 |⟨k,b,n,t,l,ks⟩=>⟨k,b,n,t,l,ks⟩::bU l
def bU:List TE0→List TE0
 |[]=>[]
 |x::r=>dr x++bU r
end
theorem jn (v:TE0):dr v=v::bU v.ac:=by cases v;rw[dr]
theorem walkVs_drop {l:List TE0} {i:Nat} {x:TE0} (h:l[i]? =some x):bU (l.drop i)=dr x++bU (l.drop (i+1)):=by
 obtain⟨hi,hx⟩:=List.getElem?_eq_some_iff.1 h
 rw[List.drop_eq_getElem_cons hi,hx,bU]
theorem part_small {v x:TE0} (h:x∈v.ac):SizeOf.sizeOf x<SizeOf.sizeOf v:=by
 have:=List.sizeOf_lt_of_mem h
 cases v
 simp only[TE0.mk.sizeOf_spec]
 dsimp only at this
 omega
theorem walkV_pos (v:TE0):1≤(dr v).length:=by rw[jn,List.length_cons];omega
theorem sG: ∀l:List TE0,l.length≤(bU l).length
 |[]=>Nat.zero_le _
 |x::r=>by
  have h1:=sG r
  have h2:=walkV_pos x
  rw[bU,List.length_append,List.length_cons]
  omega
theorem nl: ∀ {l:List TE0} {x:TE0},x∈l→(dr x).length≤(bU l).length
 |y::r,x,h=>by
  rw[bU,List.length_append]
  rcases List.mem_cons.1 h with rfl|h
  ·omega
  have:=nl h
  omega
def valsV (M:Mem) (x:TE0) (vs:Lv):Prop:=∃cs,vs=[.agg cs.toArray]∧Rep M (ai x) cs
def WalkPost {σ β:Type} (J:σ→Mem→List Ent→Prop) (Jx:β→Mem→List Ent→Prop) (r:Lp σ β) (w0:World) (M1:Mem) (H:List Ent):Ending→World→Prop:=λe w'=>
 ∃M' E',M1.le M'∧Hp w0 M' (E'++H) w'∧match r with
  |.nx s'=>e=.returned (.bool true)∧J s' M' E'
  |.br b=>e=.returned (.bool false)∧Jx b M' E'
theorem nj {σ β:Type} {J:σ→Mem→List Ent→Prop} {Jx:β→Mem→List Ent→Prop} {r:Lp σ β} {w0:World} {M1:Mem} {H:List Ent}: ¬LetsOut (bodyPost Tryz.prog Tryz.f68 (WalkPost J Jx r w0 M1 H)):=by
 rintro⟨a,w,M',E',_,_,h⟩
 cases r with
 |nx s=>cases h.1
 |br b=>cases h.1
set_option maxRecDepth 100000 in
theorem walkIns (by_ bs l:Nat) {σ β:Type} (Y:σ→TE0→Option (Lp σ β)) (J:σ→Mem→List Ent→Prop) (Jx:β→Mem→List Ent→Prop) (hJ:Grows J) (hY:Yld Tryz.prog l valsV J Jx Y):
 ∀ (m:Nat) (v:TE0),SizeOf.sizeOf v<m→(dr v).length≤9223372036854775806→∀ (s0:σ) (r:Lp σ β),mu Y (dr v) s0=some r→∀ (M:Mem) (ad:Addr) (c0:Lv),Rep M (ai v) c0→(∀j u,c0[j]? =some u→M.cell? (ad.add j)=some u)→
  M.cell? ⟨by_,0,none⟩=some (.func (.yield l) #[] #[])→M.cell? ⟨bs,0,none⟩=some (.func (.func 68) #[] #[pP by_,pP bs])→
  ∀w0 M1 E H w,M.le M1→J s0 M1 E→Hp w0 M1 (E++H) w→Calls Tryz.prog 68 [Pa ad,pP by_,pP bs].toArray w (WalkPost J Jx r w0 M1 H)
 |0,v,hm=>λ_ _ _=>absurd hm (by omega)
 |m+1,v,hm=>by
  intro hw0 s0 r hfold M ad c0 h0 q0 hby hbs w0 M1 E H w hM0 hj p0
  replace h0:=Rep.mono hM0 _ _ h0
  replace q0:=λj u h=>hM0.cell (q0 j u h)
  replace hby:=hM0.cell hby
  replace hbs:=hM0.cell hbs
  have hvl:v.ac.length<9223372036854775806:=by
   have h1:=sG v.ac
   rw[jn,List.length_cons] at hw0
   omega
  rw[jn] at hfold
  obtain⟨r1,hy1,hfold⟩:=Option.bind_eq_some_iff.1 hfold
  have hrep:=h0
  obtain⟨A_1,oF,A_2,cap_2,rfl,h_1,h_2⟩:=TE0.opn h0
  refine Re 30 Tryz.func68 rfl (λa0 f0=>?_)
  replace f0:Frm 30 [(0,Pa ad),(1,pP by_),(2,pP bs)] a0:=f0
  refine ah ?_
  refine ay ?_
  refine iU (L':=[(0,Pa ad),(1,pP by_),(2,pP bs)]) (w':=w) f0 1 [0,1,2] kr (λa_1 f_1=>?_)
  refine ag rfl ?_
  refine az ?_
  refine ah ?_
  refine ah ?_
  refine RI_out (RI_drawT 4 p0 kr kr (gZ (gZ nj)) kr (λw p0=>?_))
  refine cY (v:=.func (.yield l) #[] #[]) f_1 kr kr rfl rfl (eo (v:=.func (.yield l) #[] #[]) rfl (ad:=⟨by_,0,none⟩) kr kr (p0.cell hby)) (λa_2 f_2=>?_)
  refine cY (v:=Pa ad) f_2 kr kr rfl rfl kr (λa_3 f_3=>?_)
  refine cY (v:=Pa ad) f_3 kr kr rfl rfl kr (λa_4 f_4=>?_)
  refine cY (v:=.agg (aTE0 v A_1 oF A_2 cap_2)) f_4 kr kr rfl rfl
   (X_loadN (cs:=(lTE0 v A_1 oF A_2 cap_2)) rfl (ad:=ad) kr kr (λj u h=>p0.cell (q0 j u h))) (λa_5 f_5=>?_)
  refine qi rfl ?_
  obtain⟨fn,tmps,asg,bd,hrun,hR⟩:=hY s0 v r1 hy1 w0 M1 E H w _ hj ⟨_,rfl,hrep⟩ p0
  refine WI_round f_5 kr kr rfl rfl (λc e=>by cases e) (hx:=Eq.trans kr hrun) hR ?_
  rintro e w_1 ⟨M2,E2,hM2,p_1,hr⟩
  cases r1 with
  |br b=>
   obtain⟨rfl,hjx⟩:=hr
   refine⟨_,rfl,λa_6 f_6=>?_⟩
   refine pK (ro:=none) (gZ (gZ nj)) _ kr _ _ ?_
   refine iU (L':=[(0,Pa ad),(1,pP by_),(2,pP bs),(11,bO true)]) (w':=w_1) f_6 1 [0,1,2,11] kr (λa_7 f_7=>?_)
   refine ag rfl ?_
   refine az ?_
   refine iT f_7 kr kr ?_
   refine ah ?_
   refine ay ?_
   refine iU (L':=[(4,bO false)]) (w':=w_1) f_7 1 [4] kr (λa_8 f_8=>?_)
   refine ag rfl ?_
   refine az ?_
   refine wp_ret ?_
   refine bl ?_
   refine am f_8 rfl (Lk 4 (bO false)) ?_
   obtain rfl:=Option.some.inj hfold
   exact⟨M2,E2,hM2,p_1,rfl,hjx⟩
  |nx s1=>
   obtain⟨rfl,hj1⟩:=hr
   refine⟨_,rfl,λa_6 f_6=>?_⟩
   refine pK (ro:=none) (gZ (gZ nj)) _ kr _ _ ?_
   refine iU (L':=[(0,Pa ad),(1,pP by_),(2,pP bs),(11,bO false)]) (w':=w_1) f_6 1 [0,1,2,11] kr (λa_7 f_7=>?_)
   refine ag rfl ?_
   refine az ?_
   refine jE f_7 kr kr ?_
   refine wp_skip ?_
   refine az ?_
   replace q0:=λj u h=>hM2.cell (q0 j u h)
   replace hby:=hM2.cell hby
   replace hbs:=hM2.cell hbs
   replace h_1:=h_1.mono hM2
   replace hM0:=hM0.trans hM2
   replace hfold:mu Y (bU v.ac) s1=some r:=hfold
   refine ah ?_
   refine ah ?_
   refine ay ?_
   refine iU (L':=[(0,Pa ad),(1,pP by_),(2,pP bs),(14,Pa (ad.add 4))]) (w':=w_1) f_7 3 [0,1,2,14] kr (λa_8 f_8=>?_)
   refine oz (v:=sL A_1 v.ac oF) f_8 kr kr rfl rfl (eo (v:=sL A_1 v.ac oF) rfl (ad:=ad.add 4) kr kr (p_1.cell (q0 4 _ rfl))) (λa_9 f_9=>?_)
   refine iU (L':=[(0,Pa ad),(1,pP by_),(2,pP bs),(16,iL ((v.ac.length:Nat):Int)),(17,iL 0)]) (w':=w_1) f_9 2 [0,1,2,16,17] kr (λa_10 f_10=>?_)
   refine ag rfl ?_
   refine az ?_
   refine wp_block ?_
   refine wp_mono (Q:=λe a w=>(e=.exit 0∧∃s' M' E',r=.nx s'∧M1.le M'∧J s' M' E'∧Frm 30 [(0,Pa ad)] a∧Hp w0 M' (E'++H) w)∨(e=.ret∧∃b M' E',r=.br b∧M1.le M'∧Jx b M' E'∧Frm 30 [(4,bO false)] a∧Hp w0 M' (E'++H) w))
    (R_loop (n:=30) (w0:=w0) (M:=M2) (λ (x:Nat×σ×List Ent)=>[(0,Pa ad),(1,pP by_),(2,pP bs),(16,iL ((v.ac.length:Nat):Int)),(17,iL (x.1:Int))]) (λx=>x.2.2++H)
     (λx (MM:Mem)=>J x.2.1 MM x.2.2∧mu Y (bU (v.ac.drop x.1)) x.2.1=some r∧x.1≤v.ac.length) (λx=>v.ac.length-x.1) (0,s1,E2) (f_10.keep (ks:=[0,1,2,16,17]) kr) p_1 ⟨hj1,by rw[List.drop_zero];exact hfold,Nat.zero_le _⟩ ?_) ?_
   ·rintro⟨i,s,Es⟩ M_3 a_11 w_2 hM3 ⟨hjs,hfs,hi⟩ f_11 p_2
    dsimp only at hjs hfs hi
    replace f_11:Frm 30 [(0,Pa ad),(1,pP by_),(2,pP bs),(16,iL ((v.ac.length:Nat):Int)),(17,iL (i:Int))] a_11:=f_11
    replace p_2:Hp w0 M_3 (Es++H) w_2:=p_2
    refine ah ?_
    refine ay ?_
    refine iU (L':=[(0,Pa ad),(1,pP by_),(2,pP bs),(16,iL ((v.ac.length:Nat):Int)),(17,iL (i:Int)),(18,bO (decide ((i:Int)<((v.ac.length:Nat):Int))))]) (w':=w_2) f_11 1 [0,1,2,16,17,18] kr (λa_12 f_12=>?_)
    refine ag rfl ?_
    refine az ?_
    refine ah ?_
    refine R_cond f_12 (b:=decide ((i:Int)<((v.ac.length:Nat):Int))) kr kr (λh_3=>?_) (λh_3=>?_)
    ·have k_1:i<v.ac.length:=by have:=of_decide_eq_true h_3;omega
     refine wp_skip ?_
     refine az ?_
     refine ah ?_
     refine wp_block ?_
     refine ah ?_
     refine ay ?_
     refine iU (L':=[(0,Pa ad),(1,pP by_),(2,pP bs),(5,iL (i:Int)),(16,iL ((v.ac.length:Nat):Int)),(17,iL (i:Int))]) (w':=w_2) f_12 2 [0,1,2,5,16,17] kr (λa_13 f_13=>?_)
     refine ag rfl ?_
     refine az ?_
     have hx:v.ac[i]? =some v.ac[i]:=List.getElem?_eq_getElem k_1
     have hgx:aB v.ac (i:Int)=some v.ac[i]:=by unfold aB;rw[if_pos (by omega)];exact hx
     rw[walkVs_drop hx,tt] at hfs
     obtain⟨r2,hr2,hfs⟩:=Option.bind_eq_some_iff.1 hfs
     obtain⟨ad_1,dW,jC,hl_1,hr_1,hc_1⟩:=Sli.at_ (h_1.mono hM3) hgx
     refine ah ?_
     refine po 7 p_2 kr kr (λw_3 p_3=>?_)
     refine cY (v:=.func (.func 68) #[] #[pP by_,pP bs]) f_13 kr kr rfl rfl (eo (v:=.func (.func 68) #[] #[pP by_,pP bs]) rfl (ad:=⟨bs,0,none⟩) kr kr (p_3.cell (hM3.cell hbs))) (λa_14 f_14=>?_)
     refine cY (v:=Pa ad) f_14 kr kr rfl rfl kr (λa_15 f_15=>?_)
     refine cY (v:=Pa ad) f_15 kr kr rfl rfl kr (λa_16 f_16=>?_)
     refine cY (v:=Pa (ad.add 4)) f_16 kr kr rfl rfl kr (λa_17 f_17=>?_)
     refine cY (v:=sL A_1 v.ac oF) f_17 kr kr rfl rfl (eo (v:=sL A_1 v.ac oF) rfl (ad:=ad.add 4) kr kr (p_3.cell (hM3.cell (q0 4 _ rfl)))) (λa_18 f_18=>?_)
     refine cY (v:=iL (i:Int)) f_18 kr kr rfl rfl kr (λa_19 f_19=>?_)
     refine cY (v:=Pa (ad_1.add ((i:Int).toNat*6))) f_19 kr kr rfl rfl (pu jC rfl (len:=v.ac.length) (cap:=oF) (k:=.i64) (i:=(i:Int)) kr kr (e:=26) kr (sz:=6) kr (eW hgx) (eV hgx)) (λa_20 f_20=>?_)
     refine qi rfl ?_
     have hcall:=walkIns by_ bs l Y J Jx hJ hY m v.ac[i] (by have:=part_small (v:=v) (List.getElem_mem k_1);omega) (by
      have h1:=nl (List.getElem_mem k_1)
      have h2:=hw0
      rw[jn,List.length_cons] at h2
      omega) s r2 hr2 M_3 _ dW hr_1 hc_1 (hM3.cell hby) (hM3.cell hbs) w0 M_3 Es H w_3 (Mem.le_refl _) hjs p_3
     refine W_call (R:=λv w'=>∃M' E',M_3.le M'∧Hp w0 M' (E'++H) w'∧match r2 with
      |.nx s'=>v=bO true∧J s' M' E'
      |.br b=>v=bO false∧Jx b M' E') f_20 kr kr rfl rfl kr (hcall.mono λe w' ⟨M',E',g1,g2,g3⟩=>?_) ?_
     ·cases r2 with
      |nx s'=>exact⟨_,g3.1,M',E',g1,g2,rfl,g3.2⟩
      |br b=>exact⟨_,g3.1,M',E',g1,g2,rfl,g3.2⟩
     rintro v_1 w_4 ⟨M4,E4,hM4,p_4,g4⟩ a_21 f_21
     cases r2 with
     |br b=>
      obtain⟨rfl,hjx⟩:=g4
      obtain rfl:=Option.some.inj hfs
      refine iU (L':=[(28,bO true)]) (w':=w_4) f_21 1 [28] kr (λa_22 f_22=>?_)
      refine ag rfl ?_
      refine az ?_
      refine iT f_22 kr kr ?_
      refine ah ?_
      refine ay ?_
      refine iU (L':=[(4,bO false)]) (w':=w_4) f_22 1 [4] kr (λa_23 f_23=>?_)
      refine ag rfl ?_
      refine az ?_
      refine wp_ret ?_
      refine eu ?_
      refine bl ?_
      refine bl ?_
      exact .inr ⟨rfl,b,M4,E4,rfl,hM2.trans (hM3.trans hM4),hjx,f_23,p_4⟩
     |nx s2=>
      obtain⟨rfl,hj2⟩:=g4
      replace hfs:mu Y (bU (v.ac.drop (i+1))) s2=some r:=hfs
      refine iU (L':=[(0,Pa ad),(1,pP by_),(2,pP bs),(16,iL ((v.ac.length:Nat):Int)),(17,iL (i:Int)),(28,bO false)]) (w':=w_4) f_21 1 [0,1,2,16,17,28] kr (λa_22 f_22=>?_)
      refine ag rfl ?_
      refine az ?_
      refine jE f_22 kr kr ?_
      refine wp_skip ?_
      refine ec ?_
      refine az ?_
      refine ay ?_
      have hin:inR .i64 ((i:Int)+1):=inR_mk.2 ⟨by omega,by omega⟩
      refine iU (L':=[(0,Pa ad),(1,pP by_),(2,pP bs),(16,iL ((v.ac.length:Nat):Int)),(29,iL (IntKind.wrap .i64 ((i:Int)+1)))]) (w':=w_4) f_22 1 [0,1,2,16,29] kr (λa_23 f_23=>?_)
      have f_24:=Frm.set f_23 29 (v:=iL (IntKind.wrap .i64 ((i:Int)+1))) (v':=iL (((i+1:Nat):Int))) kr (congrArg (Value.int .i64) ((inR_wrap hin).trans (by omega)))
      have f_25:Frm 30 [(0,Pa ad),(1,pP by_),(2,pP bs),(16,iL ((v.ac.length:Nat):Int)),(29,iL (((i+1:Nat):Int)))] a_23:=f_24.keep (ks:=[0,1,2,16,29]) kr
      refine iU (L':=[(0,Pa ad),(1,pP by_),(2,pP bs),(16,iL ((v.ac.length:Nat):Int)),(17,iL (((i+1:Nat):Int)))]) (w':=w_4) f_25 1 [0,1,2,16,17] kr (λa_26 f_26=>?_)
      refine ag rfl ?_
      refine az ?_
      exact⟨(i+1,s2,E4),by dsimp only;omega,M4,hM3.trans hM4,⟨hj2,hfs,by dsimp only;omega⟩,f_26,p_4⟩
    have k_1: ¬ (i<v.ac.length):=λh=>by
     have:=of_decide_eq_false h_3
     omega
    refine wp_exit ?_
    refine dJ ?_
    refine dJ ?_
    have:v.ac.drop i=[]:=List.drop_eq_nil_of_le (by omega)
    rw[this] at hfs
    obtain rfl:=Option.some.inj hfs
    exact .inl ⟨rfl,s,M_3,Es,rfl,hM2.trans hM3,hjs,f_12.keep (ks:=[0]) kr,p_2⟩
   rintro _ a_24 w_4 (⟨rfl,s',M',E',rfl,g1,g2,f_29,p_3⟩|⟨rfl,b,M',E',rfl,g1,g2,f_29,p_3⟩)
   ·refine jV ?_
    refine az ?_
    refine ah ?_
    refine ay ?_
    refine iU (L':=[(4,bO true)]) (w':=w_4) f_29 1 [4] kr (λa_25 f_30=>?_)
    refine ag rfl ?_
    refine az ?_
    refine wp_ret ?_
    refine am f_30 rfl (Lk 4 (bO true)) ?_
    exact⟨M',E',g1,p_3,rfl,g2⟩
   refine eu ?_
   refine bl ?_
   refine am f_29 rfl (Lk 4 (bO false)) ?_
   exact⟨M',E',g1,p_3,rfl,g2⟩
end Go.Proofs.YtkopljikappieaaGreatDoor
end
section
namespace Go.Vc
open Go
theorem bnd {α β:Type} (x:α) (f:α→Option β): (some x).bind f=f x:=(Option.bind_some x f).trans (Eq.refl _)
theorem cT {α:Type} (x y:α): (bif true then x else y)=x:=(cond_true x y).trans (Eq.refl _)
theorem cF {α:Type} (x y:α): (bif false then x else y)=y:=(cond_false x y).trans (Eq.refl _)
theorem dQ {α:Type} {xs:List α} {k:Nat} (d:α) (h:k<xs.length):aB xs (k:Int)=some (xs.getD k d):=by
 unfold aB
 rw[if_pos (by omega)]
 simp[List.getD,h]
theorem getI_in {α:Type} {xs:List α} {i:Int} (d:α) (h0:0≤i) (h:i<xs.length):aB xs i=some (xs.getD i.toNat d):=by
 obtain⟨k,rfl⟩:=Int.eq_ofNat_of_zero_le h0
 exact dQ d (by omega)
theorem qu {x:Int} (h0: -1000000000000≤x) (h1:x≤1000000000000):inR .i64 x:=inR_mk.2 ⟨by omega,by omega⟩
theorem aI {α:Type} {x:Int} {y:Option α} (h0: -1000000000000≤x) (h1:x≤1000000000000):aL (inR .i64 x) y=y:=aP (qu h0 h1)
section
variable {σ β:Type} {step:σ→Option (Lp σ β)} {n:Nat}
theorem loop_run (f:Nat→σ) (p:Nat→Option β) (len:Nat) (e:β) (hs: ∀k,k<len→step (f k)=some (match p k with|some b=>.br b|none=>.nx (f (k+1)))) (he:step (f len)=some (.br e)) (hn:len<n):
 au step n (f 0)=some (((List.range len).findSome? p).getD e):=by
 have key: ∀m k,k+m=len→∀n,m<n→au step n (f k)=some (((List.range' k m).findSome? p).getD e):=by
  intro m
  induction m with
  |zero=>
   intro k hk n hn
   obtain⟨n,rfl⟩: ∃q,n=q+1:=⟨n-1,by omega⟩
   have:k=len:=by omega
   subst this
   simp[au,he]
  |succ m ih=>
   intro k hk n hn
   obtain⟨n,rfl⟩: ∃q,n=q+1:=⟨n-1,by omega⟩
   have h1:=hs k (by omega)
   rw[au,h1,Option.bind_some,List.range'_succ,List.findSome?_cons]
   cases p k with
   |some b=>rfl
   |none=>exact ih (k+1) (by omega) n (by omega)
 have:=key len 0 (by omega) n hn
 rwa [←List.range_eq_range'] at this
theorem gr (f:Nat→σ) (len:Nat) (e:β) (hs: ∀k,k<len→step (f k)=some (.nx (f (k+1)))) (he:step (f len)=some (.br e)) (hn:len<n):au step n (f 0)=some e:=by
 have:=loop_run f (λ_=>none) len e hs he hn
 rw[this]
 have: (List.range len).findSome? (λ_=>(none:Option β))=none:=by simp
 rw[this];rfl
theorem pL {step:Int→Option (Lp Int β)} (q:Nat→Bool) (len:Nat) (b e:β) (hs: ∀k:Nat,k<len→step (k:Int)=if q k then some (.br b) else some (.nx ((k:Int)+1))) (he:step (len:Int)=some (.br e)) (hn:len<n):
 au step n 0=some (bif(List.range len).any q then b else e):=by
 have:=loop_run (n:=n) (λk=>(k:Int)) (λk=>if q k then some b else none) len e (λk hk=>by
  rw[hs k hk]
  by_cases h:q k=true<;>simp[h]) he hn
 have e0: ((0:Nat):Int)=0:=rfl
 simp only[e0] at this
 rw[this]
 congr 1
 cases h: (List.range len).any q with
 |true=>
  cases h2: (List.range len).findSome? (λk=>if q k=true then some b else none) with
  |some x=>
   obtain⟨k,hk,hx⟩:=List.exists_of_findSome?_eq_some h2
   by_cases hq:q k=true
   ·simp[hq] at hx;simp[hx]
   simp[hq] at hx
  |none=>
   rw[List.findSome?_eq_none_iff] at h2
   obtain⟨k,hk,hq⟩:=List.any_eq_true.1 h
   have:=h2 k hk
   simp[hq] at this
 |false=>
  have: (List.range len).findSome? (λk=>if q k=true then some b else none)=none:=by
   rw[List.findSome?_eq_none_iff]
   intro k hk
   have:=List.any_eq_false.1 h k hk
   simp[this]
  rw[this];rfl
theorem gD (I:Nat→σ→Prop) (post:β→Prop) (len:Nat) {s0:σ} (h0:I 0 s0)
 (hs: ∀k s,k<len→I k s→(∃s',step s=some (.nx s')∧I (k+1) s')∨∃b,step s=some (.br b)∧post b)
 (he: ∀s,I len s→∃b,step s=some (.br b)∧post b) (hn:len<n): ∃b,au step n s0=some b∧post b:=by
 have key: ∀m k s,k+m=len→I k s→∀n,m<n→∃b,au step n s=some b∧post b:=by
  intro m
  induction m with
  |zero=>
   intro k s hk hI n hn
   obtain⟨n,rfl⟩: ∃q,n=q+1:=⟨n-1,by omega⟩
   have:k=len:=by omega
   subst this
   obtain⟨b,h1,h2⟩:=he s hI
   exact⟨b,by simp[au,h1],h2⟩
  |succ m ih=>
   intro k s hk hI n hn
   obtain⟨n,rfl⟩: ∃q,n=q+1:=⟨n-1,by omega⟩
   rcases hs k s (by omega) hI with⟨s',h1,h2⟩|⟨b,h1,h2⟩
   ·obtain⟨b,h3,h4⟩:=ih (k+1) s' (by omega) h2 n (by omega)
    exact⟨b,by simp[au,h1,h3],h4⟩
   exact⟨b,by simp[au,h1],h2⟩
 exact key len 0 s0 (by omega) h0 n hn
end
theorem qk {α:Type} (d:α) (q:α→Bool) (xs:List α): ((List.range xs.length).any λk=>q (xs.getD k d))=xs.any q:=by
 rw[Bool.eq_iff_iff,List.any_eq_true,List.any_eq_true]
 constructor
 ·rintro⟨k,hk,h⟩
  have hk':k<xs.length:=by simpa using hk
  exact⟨xs[k],List.getElem_mem hk',by simpa [List.getD,hk'] using h⟩
 rintro⟨x,hx,h⟩
 obtain⟨k,hk,rfl⟩:=List.mem_iff_getElem.1 hx
 exact⟨k,by simpa using hk,by simpa [List.getD,hk] using h⟩
theorem mpS {α β:Type} (x:α) (f:α→β): (some x).map f=some (f x):=(Option.map_some x f).trans (Eq.refl _)
theorem jN {τ Λ:Type} (x:τ) (k:τ→Option Λ):joinF (.nx x) k=k x:=(Eq.refl (joinF (.nx x) k)).trans (Eq.refl _)
theorem jB {τ Λ:Type} (l:Λ) (k:τ→Option Λ):joinF (.br l) k=some l:=(Eq.refl (joinF (.br l) k)).trans (Eq.refl _)
theorem ql (l:Bs) (hne:l≠ []):
 (Lib.decodeL l=(65533,1)∧128≤(l.getD 0 0).toNat)∨
 ∃r w,Lib.decodeL l=(r,w)∧w≤l.length∧1≤w∧w≤4∧(∀j,1≤j→j<w→(l.getD j 0).toNat / 64=2)∧((w=1∧(l.getD 0 0).toNat<128∧r=(l.getD 0 0).toNat)∨(1<w∧128≤r∧192≤(l.getD 0 0).toNat))∧r≤1114111:=by
 have hl:0<l.length:=List.length_pos_iff.2 hne
 rw[Lib.decodeL_N]
 rcases Lib.decodeN_shape l.length (l.getD 0 0).toNat (l.getD 1 0).toNat (l.getD 2 0).toNat (l.getD 3 0).toNat with⟨c,e⟩|⟨c1,c2,c3,cv,e⟩|⟨c1,c2,c3,c4,cv,cs,e⟩|⟨c1,c2,c3,c4,c5,cv,cw,e⟩|e
 ·exact .inr ⟨_,_,e,by omega,by omega,by omega,λj h1 h2=>by omega,.inl ⟨rfl,c,rfl⟩,by omega⟩
 ·refine .inr ⟨_,_,e,by omega,by omega,by omega,λj h1 h2=>?_,.inr ⟨by omega,by omega,by omega⟩,by omega⟩
  obtain rfl:j=1:=by omega
  exact c3
 ·refine .inr ⟨_,_,e,by omega,by omega,by omega,λj h1 h2=>?_,.inr ⟨by omega,by omega,by omega⟩,by omega⟩
  obtain rfl|rfl:j=1∨j=2:=by omega
  ·exact c3
  exact c4
 ·refine .inr ⟨_,_,e,by omega,by omega,by omega,λj h1 h2=>?_,.inr ⟨by omega,by omega,by omega⟩,by omega⟩
  obtain rfl|rfl|rfl:j=1∨j=2∨j=3:=by omega
  ·exact c3
  ·exact c4
  exact c5
 by_cases h: (l.getD 0 0).toNat<128
 ·refine .inr ⟨_,_,Lib.decodeN_ascii _ _ _ _ _ h,by omega,by omega,by omega,λj h1 h2=>by omega,.inl ⟨rfl,h,rfl⟩,by omega⟩
 exact .inl ⟨e,by omega⟩
theorem rune_at {l:Bs} (hne:l≠ []) (hv:Lib.validD l=true):
 (∃c t,l=c::t∧c.toNat<128∧Lib.decodeL l=(c.toNat,1)∧Lib.validD t=true)∨
 ∃r a t,l=a++t∧Lib.decodeL l=(r,a.length)∧a≠ []∧(∀x∈a,128≤x.toNat)∧128≤r∧r≤1114111∧Lib.encodeRune (r:Int)=a∧Lib.validD t=true:=by
 have hs:=hv
 rw[Lib.validD_step _ hne] at hs
 split at hs
 ·cases hs
 rename_i hnv
 rcases ql l hne with⟨e,_⟩|⟨r,w,e,h1,h2,h3,h4,h5,h6⟩
 ·rw[e] at hnv;exact absurd ⟨rfl,rfl⟩ hnv
 have henc:=Lib.encode_decode l hne hnv
 rw[e] at hs henc
 rcases h5 with⟨rfl,h7,rfl⟩|⟨h7,h8,h9⟩
 ·left
  obtain⟨c,t,rfl⟩: ∃c t,l=c::t:=List.exists_cons_of_ne_nil hne
  exact⟨c,t,rfl,h7,e,hs⟩
 right
 have hlen: (l.take w).length=w:=by rw[List.length_take];omega
 refine⟨r,l.take w,l.drop w,(List.take_append_drop w l).symm,by rw[hlen,e],λe0=>by rw[e0] at hlen;simp at hlen;omega,λx hx=>?_,h8,h6,henc,hs⟩
 obtain⟨j,hj,rfl⟩:=List.mem_iff_getElem.1 hx
 rw[hlen] at hj
 have hg:l.getD j 0=(l.take w)[j]:=by simp[List.getD,show j<l.length by omega]
 rw[←hg]
 by_cases hj0:j=0
 ·subst hj0;omega
 have:=h4 j (by omega) hj
 omega
end Go.Vc
end
section
namespace Go.Proofs.YtkopljikappieaaGreatDoor
open Go Go.Vc Go.RowKit
def gT (n:Nat) (rec_ref03_Count:TE0→Option Int) (d0:TE0) (K1:Int×Int):Option (Lp (Int×Int) Int):=
    bif(decide (K1.2<((d0.ac.length:Nat):Int))) then
     ((aB d0.ac K1.2).bind λX1=>
     (rec_ref03_Count X1).bind λX2=>
     aL (inR .i64 (K1.1+X2))<|
     aL (inR .i64 (K1.2+1))<|
     some (.nx (K1.1+X2,K1.2+1)))
    else
     some (.br K1.1)
def jI (n:Nat) (rec_ref03_Count:TE0→Option Int) (d0:TE0):Option Int:=
 (au (gT n rec_ref03_Count d0) n ((1:Int),(0:Int))).bind λG1=>
 some (G1)
theorem qA (n:Nat) (rec_ref03_Count:TE0→Option Int) (hrec_ref03_Count: ∀ (M:Mem) (c0:Lv) (d0:TE0) (h0:Rep M (ai d0) c0) (r:Int) (hF:rec_ref03_Count d0=some r),Ok Tryz.prog M 38 [.agg c0.toArray] (λ_ v=>v=iL r)) (M:Mem) (c0:Lv) (d0:TE0) (h0:Rep M (ai d0) c0) (r:Int) (hF:jI n rec_ref03_Count d0=some r):Ok Tryz.prog M 38 [.agg c0.toArray] (λ_ v=>v=iL r):=by
 unfold jI at hF
 intro M1 hM0 w0 H w p0
 replace h0:=Rep.mono hM0 _ _ h0
 obtain⟨Z1,P1,Z2,P2,rfl,B1,B2⟩:=TE0.opn h0
 refine Re 21 Tryz.func38 rfl λa0 f0=>RR (Y5 (cs:=(aTE0 d0 Z1 P1 Z2 P2)) (T:=26) f0 p0 λQ1 V1 W1 J1 R1 N1 _ f=>?_)
 have R2:=aU R1
 refine Ye f 1 λ_ f=>RR (Ye f 1 λ_ f=>ah (RR (Ye f 1 λ_ f=>wp_block ?_)))
 obtain⟨Q2,ce,F1⟩:=bS hF
 refine wp_mono (Q:=λe a w=>(e=.exit 0∧(∃G1,Q2=G1∧∃V3,V1.le V3∧Frm 21 [(3,iL G1)] a∧Hp w0 V3 (H) w))) (aZ (σ:=(Int×Int)) (λx=>match x with|(I1,K1)=>([(1,pP Q1),(3,iL K1.1),(4,iL K1.2)],(H),λMM=>au (gT n rec_ref03_Count d0) I1 K1=some Q2)) (n,((1:Int),(0:Int))) (f.kp) N1.kr ce ?_) ?_
 ·rintro⟨I1,K1⟩ V2 _ W2 J2 gL f N2
  have ci:=gL
  obtain⟨I2,lT,rfl,bg,T1⟩:=aK ci
  unfold gT at bg
  refine ah (RR (Y f 2 λ_ f=>Y7 f N2 (fu R2) 4 rfl λ_ f=>Ye f 2 λ_ f=>RcF f bg (λB3 F2=>?_) λB3 F7=>?_))
  ·refine St (ah (wp_block (ay (Y f 2 λ_ f=>Y7 f N2 (fu R2) 4 rfl λ_ f=>Y f 1 λ_ f=>?_))))
   obtain⟨X1,l1,F3⟩:=bS F2
   obtain⟨C1,dW,jC,D1,R3⟩:=N2.at_ B1 l1
   obtain⟨Z3,P3,Z4,P4,rfl,B4,B5⟩:=TE0.opn D1
   refine Z f (XI jC l1) λ_ f=>Z f (XK N2 R3 0) λ_ f=>?_
   obtain⟨X2,l2,F4⟩:=bS F3
   refine Y9 f N2 (hrec_ref03_Count _ _ X1 D1.mo X2 l2) λW3 N3 _ f=>?_
   obtain⟨O1,F5⟩:=nS F4
   refine Y f 1 λ_ f=>?_
   have f:=f.st 19 (iW O1)
   refine Y f 1 λ_ f=>ag rfl (ec (az (ay (Y f 1 λ_ f=>?_))))
   obtain⟨O2,F6⟩:=nS F5
   refine Y f 1 λ_ f=>?_
   have f:=f.st 11 (iW O2)
   refine Ye f 1 λ_ f=>?_
   cases sI F6
   exact⟨⟨_,_⟩,Nat.lt_succ_self _,_,J2,T1,f.kp,N3.kr⟩
  refine wp_exit (dJ (dJ ?_))
  cases sI F7
  exact⟨rfl,_,(sI T1).symm,_,J2,f.kp,N2.kr⟩
 rintro _ _ W5 ⟨rfl,G1,hq_,V3,J3,f,N4⟩
 subst Q2
 refine jV (az (RR (Ye f 2 λ_ f=>wp_ret (am f rfl (Lk 2 (iL G1)) ?_))))
 cases sI F1
 exact⟨_,rfl,_,mL,N4.kr,rfl⟩
def gc (n:Nat):Nat→TE0→Option Int
 |0=>λ_=>none
 |k+1=>jI n (gc n k)
def nP (n:Nat) (d0:TE0):Option Int:=gc n n d0
theorem sq (n:Nat) (M:Mem) (c0:Lv) (d0:TE0) (h0:Rep M (ai d0) c0) (r:Int) (hF:nP n d0=some r):Ok Tryz.prog M 38 [.agg c0.toArray] (λ_ v=>v=iL r):=by
 have key: ∀ (k:Nat) (M:Mem) (c0:Lv) (d0:TE0) (h0:Rep M (ai d0) c0) (r:Int) (hF:gc n k d0=some r),Ok Tryz.prog M 38 [.agg c0.toArray] (λ_ v=>v=iL r):=by
  intro k
  induction k with
  |zero=>intro M c0 d0 h0 r hF;simp[gc] at hF
  |succ k ih=>intro M c0 d0 h0 r hF;exact qA n (gc n k) ih M c0 d0 h0 r hF
 exact key n M c0 d0 h0 r hF
def gy (n:Nat) (rec_ref03_deeper:TE0→Int→Option Bool) (d0:TE0) (d1:Int) (K1:Int):Option (Lp Int (Sum Unit Unit)):=
    bif(decide (K1<((d0.ac.length:Nat):Int))) then
     ((aB d0.ac K1).bind λX1=>
     aL (inR .i64 (d1-1))<|
     (rec_ref03_deeper X1 (d1-1)).bind λX2=>
     bif X2 then
      (some (.br (.inl ())))
     else
      aL (inR .i64 (K1+1))<|
      some (.nx (K1+1)))
    else
     some (.br (.inr ()))
def iV (n:Nat) (rec_ref03_deeper:TE0→Int→Option Bool) (d0:TE0) (d1:Int):Option Bool:=
 bif(decide (d1=0)) then
  (some ((true)))
 else
  (au (gy n rec_ref03_deeper d0 d1) n (0:Int)).bind λQ2=>
  (match Q2 with
  |.inl G1=>some ((true))
  |.inr G2=>some ((false)))
set_option maxRecDepth 20000 in
theorem pV (n:Nat) (rec_ref03_deeper:TE0→Int→Option Bool) (hrec_ref03_deeper: ∀ (M:Mem) (c0:Lv) (d0:TE0) (h0:Rep M (ai d0) c0) (d1:Int) (r:Bool) (hF:rec_ref03_deeper d0 d1=some r),Ok Tryz.prog M 36 [.agg c0.toArray,iL d1] (λ_ v=>v=bO r)) (M:Mem) (c0:Lv) (d0:TE0) (h0:Rep M (ai d0) c0) (d1:Int) (r:Bool) (hF:iV n rec_ref03_deeper d0 d1=some r):Ok Tryz.prog M 36 [.agg c0.toArray,iL d1] (λ_ v=>v=bO r):=by
 unfold iV at hF
 intro M1 hM0 w0 H w p0
 replace h0:=Rep.mono hM0 _ _ h0
 obtain⟨Z1,P1,Z2,P2,rfl,B1,B2⟩:=TE0.opn h0
 refine Re 23 Tryz.func36 rfl λa0 f0=>RR (Y5 (cs:=(aTE0 d0 Z1 P1 Z2 P2)) (T:=26) f0 p0 λQ1 V1 W1 J1 R1 N1 _ f=>?_)
 have R2:=aU R1
 refine Ye f 1 λ_ f=>ah (RR (Ye f 2 λ_ f=>RcF f hF (λB3 F1=>?_) λB3 F2=>?_))
 ·refine RR (Ye f 1 λ_ f=>wp_ret (bl (am f rfl (Lk 4 (bO true)) ?_)))
  cases sI F1
  exact⟨_,rfl,_,J1,N1.kr,rfl⟩
 refine St (ah (RR (Ye f 1 λ_ f=>wp_block ?_)))
 obtain⟨Q2,ce,F3⟩:=bS F2
 refine wp_mono (Q:=λe a w=>(e=.ret∧(∃G1,Q2=.inl G1∧∃V3,V1.le V3∧Frm 23 [(4,bO true)] a∧Hp w0 V3 (H) w))∨(e=.exit 0∧(∃G2,Q2=.inr G2∧∃V4,V1.le V4∧Frm 23 [] a∧Hp w0 V4 (H) w))) (aZ (σ:=Int) (λx=>match x with|(I1,K1)=>(((5,iL K1)::kpL [1,2] f.fr),(H),λMM=>au (gy n rec_ref03_deeper d0 d1) I1 K1=some Q2)) (n,(0:Int)) (f.kp) N1.kr ce ?_) ?_
 ·rintro⟨I1,K1⟩ V2 _ W2 J2 gL f N2
  have ci:=gL
  obtain⟨I2,lT,rfl,bg,T1⟩:=aK ci
  unfold gy at bg
  refine ah (RR (Y f 2 λ_ f=>Y7 f N2 (fu R2) 4 rfl λ_ f=>Ye f 2 λ_ f=>RcF f bg (λB4 F4=>?_) λB4 F11=>?_))
  ·refine St (ah (wp_block (RR (Y f 1 λ_ f=>Y7 f N2 (fu R2) 4 rfl λ_ f=>Y f 1 λ_ f=>?_))))
   obtain⟨X1,l1,F5⟩:=bS F4
   obtain⟨C1,dW,jC,D1,R3⟩:=N2.at_ B1 l1
   obtain⟨Z3,P3,Z4,P4,rfl,B5,B6⟩:=TE0.opn D1
   refine Z f (XI jC l1) λ_ f=>Z f (XK N2 R3 0) λ_ f=>Y f 1 λ_ f=>?_
   obtain⟨O1,F6⟩:=nS F5
   refine Y f 1 λ_ f=>?_
   have f:=f.st 21 (iW O1)
   obtain⟨X2,l2,F7⟩:=bS F6
   refine Y9 f N2 (hrec_ref03_deeper _ _ X1 D1.mo (d1-1) X2 l2) λW3 N3 _ f=>eT (RcF f F7 (λB7 F8=>?_) λB7 F9=>?_)
   ·refine RR (Ye f 1 λ_ f=>wp_ret (eu (bl (bl ?_))))
    cases sI F8
    exact .inl ⟨rfl,_,(sI T1).symm,_,J2,f.kp,N3.kr⟩
   refine wp_skip (ec (az (ay (Y f 1 λ_ f=>?_))))
   obtain⟨O2,F10⟩:=nS F9
   refine Y f 1 λ_ f=>?_
   have f:=f.st 14 (iW O2)
   refine Ye f 1 λ_ f=>?_
   cases sI F10
   exact⟨⟨_,_⟩,Nat.lt_succ_self _,_,J2,T1,f.kp,N3.kr⟩
  refine wp_exit (dJ (dJ ?_))
  cases sI F11
  exact .inr ⟨rfl,_,(sI T1).symm,_,J2,f.kp,N2.kr⟩
 rintro _ _ W6 (⟨rfl,G1,rfl,V3,J3,f,N4⟩|⟨rfl,G2,rfl,V4,J4,f,N5⟩)
 ·refine eu (bl (am f rfl (Lk 4 (bO true)) ?_))
  cases sI F3
  exact⟨_,rfl,_,mL,N4.kr,rfl⟩
 refine jV (az (RR (Ye f 1 λ_ f=>wp_ret (am f rfl (Lk 4 (bO false)) ?_))))
 cases sI F3
 exact⟨_,rfl,_,mL,N5.kr,rfl⟩
def ez (n:Nat):Nat→TE0→Int→Option Bool
 |0=>λ_ _=>none
 |k+1=>iV n (ez n k)
def mT (n:Nat) (d0:TE0) (d1:Int):Option Bool:=ez n n d0 d1
theorem rf (n:Nat) (M:Mem) (c0:Lv) (d0:TE0) (h0:Rep M (ai d0) c0) (d1:Int) (r:Bool) (hF:mT n d0 d1=some r):Ok Tryz.prog M 36 [.agg c0.toArray,iL d1] (λ_ v=>v=bO r):=by
 have key: ∀ (k:Nat) (M:Mem) (c0:Lv) (d0:TE0) (h0:Rep M (ai d0) c0) (d1:Int) (r:Bool) (hF:ez n k d0 d1=some r),Ok Tryz.prog M 36 [.agg c0.toArray,iL d1] (λ_ v=>v=bO r):=by
  intro k
  induction k with
  |zero=>intro M c0 d0 h0 d1 r hF;simp[ez] at hF
  |succ k ih=>intro M c0 d0 h0 d1 r hF;exact pV n (ez n k) ih M c0 d0 h0 d1 r hF
 exact key n M c0 d0 h0 d1 r hF
def kS (n:Nat) (d0:TE0):Option Bool:=
 ((bif(decide (d0.ab<0)) then
  (some ((true)))
   else
    some ((decide ((5:Int)<d0.ab))):Option Bool)).bind λG1=>
 bif G1 then
  (some ((false)))
 else
  ((bif d0.an then
   (bif(!(decide (d0.ab=1))) then
    (some ((true)))
   else
    bif(!(decide (d0.ak=0))) then
     (bif(!(decide (d0.ab=2))) then
      (some ((true)))
     else
      bif(!(decide (d0.aa=[]))) then
       (some ((!(decide (d0.ab=3)))))
      else
       some ((false)))
    else
     bif(!(decide (d0.aa=[]))) then
      (some ((!(decide (d0.ab=3)))))
     else
      some ((false)))
    else
     bif(!(decide (d0.ak=0))) then
      (bif(!(decide (d0.ab=2))) then
       (some ((true)))
      else
       bif(!(decide (d0.aa=[]))) then
        (some ((!(decide (d0.ab=3)))))
       else
        some ((false)))
     else
      bif(!(decide (d0.aa=[]))) then
       (some ((!(decide (d0.ab=3)))))
      else
       some ((false)):Option Bool)).bind λG2=>
  bif G2 then
   (some ((false)))
  else
   ((bif(decide ((0:Int)<((d0.ac.length:Nat):Int))) then
    (bif(!(decide (d0.ab=4))) then
     (some ((!(decide (d0.ab=5)))))
    else
     some ((false)))
     else
      some ((false)):Option Bool)).bind λG3=>
   bif G3 then
    (some ((false)))
   else
    bif(decide (d0.ab=5)) then
     (some ((decide (((d0.af.length:Nat):Int)=((d0.ac.length:Nat):Int)))))
    else
     some ((decide (((d0.af.length:Nat):Int)=0)))
set_option maxRecDepth 20000 in
theorem su (n:Nat) (M:Mem) (c0:Lv) (d0:TE0) (h0:Rep M (ai d0) c0) (r:Bool) (hF:kS n d0=some r):Ok Tryz.prog M 85 [.agg c0.toArray] (λ_ v=>v=bO r):=by
 unfold kS at hF
 intro M1 hM0 w0 H w p0
 replace h0:=Rep.mono hM0 _ _ h0
 obtain⟨Z1,P1,Z2,P2,rfl,B1,B2⟩:=TE0.opn h0
 refine Re 66 Tryz.func85 rfl λa0 f0=>RR (Y5 (cs:=(aTE0 d0 Z1 P1 Z2 P2)) (T:=26) f0 p0 λQ1 V1 W1 J1 R1 N1 _ f=>?_)
 have R2:=aU R1
 refine Ye f 1 λ_ f=>ah (ah ?_)
 obtain⟨eF,cL,F1⟩:=bS hF
 refine aW (λa_10 W2=>∃G1,eF=G1∧∃V2,V1.le V2∧Frm 66 [(1,pP Q1),(10,bO G1)] a_10∧Hp w0 V2 (H) W2) ?_ ?_
 ·refine ay (Y f 1 λ_ f=>Y7 f N1 R2 0 rfl λ_ f=>Y f 2 λ_ f=>?_)
  rcases cE cL with⟨B3,F2⟩|⟨B3,F3⟩
  ·have f:=f.st 6 (cB B3)
   refine Ye f 4 λ_ f=>?_
   exact⟨_,(sI F2).symm,_,mL,f.kp,N1.kr⟩
  have f:=f.st 6 (cB B3)
  refine Y f 1 λ_ f=>Y7 f N1 R2 0 rfl λ_ f=>Ye f 2 λ_ f=>?_
  exact⟨_,(sI F3).symm,_,mL,f.kp,N1.kr⟩
 rintro a_10 W2 ⟨G1,eS,V2,J2,f,N2⟩
 subst eF
 refine az (RcF f F1 (λB4 F4=>?_) λB4 F5=>?_)
 ·refine RR (Ye f 1 λ_ f=>wp_ret (bl (am f rfl (Lk 2 (bO false)) ?_)))
  cases sI F4
  exact⟨_,rfl,_,mL,N2.kr,rfl⟩
 refine St (ah (ah ?_))
 obtain⟨lb,iJ,F6⟩:=bS F5
 refine aW (λa_65 W3=>∃G2,lb=G2∧∃V3,V2.le V3∧Frm 66 [(1,pP Q1),(37,bO G2)] a_65∧Hp w0 V3 (H) W3) ?_ ?_
 ·refine ay (Y f 1 λ_ f=>Y7 f N2 (fu R2) 1 rfl λ_ f=>Y f 1 λ_ f=>?_)
  rcases cE iJ with⟨B5,F7⟩|⟨B5,F18⟩
  ·have f:=f.st 13 (cB B5)
   refine Y f 1 λ_ f=>Y7 f N2 (fu R2) 0 rfl λ_ f=>Y f 3 λ_ f=>?_
   rcases cE F7 with⟨B6,F8⟩|⟨B6,F9⟩
   ·have f:=f.st 18 (cB B6)
    refine Ye f 19 λ_ f=>?_
    exact⟨_,(sI F8).symm,_,mL,f.kp,N2.kr⟩
   have f:=f.st 18 (cB B6)
   refine Y f 1 λ_ f=>Y7 f N2 (fu R2) 2 rfl λ_ f=>Y f 2 λ_ f=>?_
   rcases cE F9 with⟨B7,F10⟩|⟨B7,F15⟩
   ·have f:=f.st 22 (cB B7)
    refine Y f 1 λ_ f=>Y7 f N2 (fu R2) 0 rfl λ_ f=>Y f 4 λ_ f=>?_
    rcases cE F10 with⟨B8,F11⟩|⟨B8,F12⟩
    ·have f:=f.st 28 (cB B8)
     refine Ye f 9 λ_ f=>?_
     exact⟨_,(sI F11).symm,_,mL,f.kp,N2.kr⟩
    have f:=f.st 28 (cB B8)
    refine Y f 1 λ_ f=>Y7 f N2 (fu R2) 3 rfl λ_ f=>Z f (ep rfl (l:=d0.aa) (m:=[]) kr kr) λ_ f=>Y f 1 λ_ f=>?_
    rcases cE F12 with⟨B9,F13⟩|⟨B9,F14⟩
    ·have f:=f.st 32 (cB B9)
     refine Y f 1 λ_ f=>Y7 f N2 (fu R2) 0 rfl λ_ f=>Ye f 3 λ_ f=>?_
     exact⟨_,(sI F13).symm,_,mL,f.kp,N2.kr⟩
    have f:=f.st 32 (cB B9)
    refine Ye f 5 λ_ f=>?_
    exact⟨_,(sI F14).symm,_,mL,f.kp,N2.kr⟩
   have f:=f.st 22 (cB B7)
   refine Y f 7 λ_ f=>Y7 f N2 (fu R2) 3 rfl λ_ f=>Z f (ep rfl (l:=d0.aa) (m:=[]) kr kr) λ_ f=>Y f 1 λ_ f=>?_
   rcases cE F15 with⟨B10,F16⟩|⟨B10,F17⟩
   ·have f:=f.st 32 (cB B10)
    refine Y f 1 λ_ f=>Y7 f N2 (fu R2) 0 rfl λ_ f=>Ye f 3 λ_ f=>?_
    exact⟨_,(sI F16).symm,_,mL,f.kp,N2.kr⟩
   have f:=f.st 32 (cB B10)
   refine Ye f 5 λ_ f=>?_
   exact⟨_,(sI F17).symm,_,mL,f.kp,N2.kr⟩
  have f:=f.st 13 (cB B5)
  refine Y f 6 λ_ f=>Y7 f N2 (fu R2) 2 rfl λ_ f=>Y f 2 λ_ f=>?_
  rcases cE F18 with⟨B11,F19⟩|⟨B11,F24⟩
  ·have f:=f.st 22 (cB B11)
   refine Y f 1 λ_ f=>Y7 f N2 (fu R2) 0 rfl λ_ f=>Y f 4 λ_ f=>?_
   rcases cE F19 with⟨B12,F20⟩|⟨B12,F21⟩
   ·have f:=f.st 28 (cB B12)
    refine Ye f 9 λ_ f=>?_
    exact⟨_,(sI F20).symm,_,mL,f.kp,N2.kr⟩
   have f:=f.st 28 (cB B12)
   refine Y f 1 λ_ f=>Y7 f N2 (fu R2) 3 rfl λ_ f=>Z f (ep rfl (l:=d0.aa) (m:=[]) kr kr) λ_ f=>Y f 1 λ_ f=>?_
   rcases cE F21 with⟨B13,F22⟩|⟨B13,F23⟩
   ·have f:=f.st 32 (cB B13)
    refine Y f 1 λ_ f=>Y7 f N2 (fu R2) 0 rfl λ_ f=>Ye f 3 λ_ f=>?_
    exact⟨_,(sI F22).symm,_,mL,f.kp,N2.kr⟩
   have f:=f.st 32 (cB B13)
   refine Ye f 5 λ_ f=>?_
   exact⟨_,(sI F23).symm,_,mL,f.kp,N2.kr⟩
  have f:=f.st 22 (cB B11)
  refine Y f 7 λ_ f=>Y7 f N2 (fu R2) 3 rfl λ_ f=>Z f (ep rfl (l:=d0.aa) (m:=[]) kr kr) λ_ f=>Y f 1 λ_ f=>?_
  rcases cE F24 with⟨B14,F25⟩|⟨B14,F26⟩
  ·have f:=f.st 32 (cB B14)
   refine Y f 1 λ_ f=>Y7 f N2 (fu R2) 0 rfl λ_ f=>Ye f 3 λ_ f=>?_
   exact⟨_,(sI F25).symm,_,mL,f.kp,N2.kr⟩
  have f:=f.st 32 (cB B14)
  refine Ye f 5 λ_ f=>?_
  exact⟨_,(sI F26).symm,_,mL,f.kp,N2.kr⟩
 rintro a_65 W3 ⟨G2,hZ,V3,J3,f,N3⟩
 subst lb
 refine az (RcF f F6 (λB15 F27=>?_) λB15 F28=>?_)
 ·refine RR (Ye f 1 λ_ f=>wp_ret (bl (am f rfl (Lk 2 (bO false)) ?_)))
  cases sI F27
  exact⟨_,rfl,_,mL,N3.kr,rfl⟩
 refine St (ah (ah ?_))
 obtain⟨ns,la,F29⟩:=bS F28
 refine aW (λa_78 W4=>∃G3,ns=G3∧∃V4,V3.le V4∧Frm 66 [(1,pP Q1),(51,bO G3)] a_78∧Hp w0 V4 (H) W4) ?_ ?_
 ·refine ay (Y f 1 λ_ f=>Y7 f N3 (fu R2) 4 rfl λ_ f=>Y f 3 λ_ f=>?_)
  rcases cE la with⟨B16,F30⟩|⟨B16,F33⟩
  ·have f:=f.st 42 (cB B16)
   refine Y f 1 λ_ f=>Y7 f N3 (fu R2) 0 rfl λ_ f=>Y f 3 λ_ f=>?_
   rcases cE F30 with⟨B17,F31⟩|⟨B17,F32⟩
   ·have f:=f.st 47 (cB B17)
    refine Y f 1 λ_ f=>Y7 f N3 (fu R2) 0 rfl λ_ f=>Ye f 2 λ_ f=>?_
    exact⟨_,(sI F31).symm,_,mL,f.kp,N3.kr⟩
   have f:=f.st 47 (cB B17)
   refine Ye f 4 λ_ f=>?_
   exact⟨_,(sI F32).symm,_,mL,f.kp,N3.kr⟩
  have f:=f.st 42 (cB B16)
  refine Ye f 9 λ_ f=>?_
  exact⟨_,(sI F33).symm,_,mL,f.kp,N3.kr⟩
 rintro a_78 W4 ⟨G3,qt,V4,J4,f,N4⟩
 subst ns
 refine az (RcF f F29 (λB18 F34=>?_) λB18 F35=>?_)
 ·refine RR (Ye f 1 λ_ f=>wp_ret (bl (am f rfl (Lk 2 (bO false)) ?_)))
  cases sI F34
  exact⟨_,rfl,_,mL,N4.kr,rfl⟩
 refine St (ah (RR (Y f 1 λ_ f=>Y7 f N4 (fu R2) 0 rfl λ_ f=>Ye f 1 λ_ f=>RcF f F35 (λB19 F36=>?_) λB19 F37=>?_)))
 ·refine RR (Y f 1 λ_ f=>Y7 f N4 (fu R2) 5 rfl λ_ f=>Y f 2 λ_ f=>Y7 f N4 (fu R2) 4 rfl λ_ f=>Ye f 3 λ_ f=>wp_ret (bl (am f rfl (Lk 2 (bO (decide (((d0.af.length:Nat):Int)=((d0.ac.length:Nat):Int))))) ?_)))
  cases sI F36
  exact⟨_,rfl,_,mL,N4.kr,rfl⟩
 refine St (RR (Y f 1 λ_ f=>Y7 f N4 (fu R2) 5 rfl λ_ f=>Ye f 3 λ_ f=>wp_ret (am f rfl (Lk 2 (bO (decide (((d0.af.length:Nat):Int)=0)))) ?_)))
 cases sI F37
 exact⟨_,rfl,_,mL,N4.kr,rfl⟩
def gU (n:Nat) (d0:TE0) (K1:Int):Option (Lp Int (Sum Unit Unit)):=
    bif(decide (K1<((d0.af.length:Nat):Int))) then
     ((aB d0.af K1).bind λX3=>
     (hP n X3).bind λX4=>
     bif !X4 then
      (some (.br (.inl ())))
     else
      aL (inR .i64 (K1+1))<|
      some (.nx (K1+1)))
    else
     some (.br (.inr ()))
def gV (n:Nat) (d0:TE0) (K2:Int) (K3:Int):Option (Lp Int (Sum Unit Unit)):=
    bif(decide (K3<K2)) then
     ((aB d0.af K3).bind λX5=>
     (aB d0.af K2).bind λX6=>
     bif(decide (X5=X6)) then
      (some (.br (.inl ())))
     else
      aL (inR .i64 (K3+1))<|
      some (.nx (K3+1)))
    else
     some (.br (.inr ()))
def gu (n:Nat) (d0:TE0) (K2:Int):Option (Lp Int (Sum Unit Unit)):=
    bif(decide (K2<((d0.af.length:Nat):Int))) then
     ((au (gV n d0 K2) n (0:Int)).bind λQ4=>
     (match Q4 with
     |.inl G4=>some (.br (.inl ()))
     |.inr G5=>aL (inR .i64 (K2+1))<|
      some (.nx (K2+1))))
    else
     some (.br (.inr ()))
def gW (n:Nat) (rec_ref03_wrong:TE0→Option Int) (d0:TE0) (K4:Int):Option (Lp Int (Sum Int Unit)):=
    bif(decide (K4<((d0.ac.length:Nat):Int))) then
     ((aB d0.ac K4).bind λX7=>
     (rec_ref03_wrong X7).bind λX8=>
     bif(!(decide (X8=0))) then
      (some (.br (.inl X8)))
     else
      aL (inR .i64 (K4+1))<|
      some (.nx (K4+1)))
    else
     some (.br (.inr ()))
def jJ (n:Nat) (rec_ref03_wrong:TE0→Option Int) (d0:TE0):Option Int:=
 (kS n d0).bind λX1=>
 bif !X1 then
  (some ((2:Int)))
 else
  ((bif(decide (d0.ak<(-9007199254740992))) then
   (some ((true)))
    else
     some ((decide ((9007199254740992:Int)<d0.ak))):Option Bool)).bind λG1=>
  bif G1 then
   (some ((20:Int)))
  else
   (hP n d0.aa).bind λX2=>
   bif !X2 then
    (some ((10:Int)))
   else
    (au (gU n d0) n (0:Int)).bind λQ2=>
    (match Q2 with
    |.inl G2=>some ((10:Int))
    |.inr G3=>(au (gu n d0) n (0:Int)).bind λQ3=>
     (match Q3 with
     |.inl G6=>some ((41:Int))
     |.inr G7=>(au (gW n rec_ref03_wrong d0) n (0:Int)).bind λQ5=>
      (match Q5 with
      |.inl G8=>some (G8)
      |.inr G9=>some ((0:Int)))))
set_option maxRecDepth 20000 in
theorem qB (n:Nat) (rec_ref03_wrong:TE0→Option Int) (hrec_ref03_wrong: ∀ (M:Mem) (c0:Lv) (d0:TE0) (h0:Rep M (ai d0) c0) (r:Int) (hF:rec_ref03_wrong d0=some r),Ok Tryz.prog M 37 [.agg c0.toArray] (λ_ v=>v=iL r)) (M:Mem) (c0:Lv) (d0:TE0) (h0:Rep M (ai d0) c0) (r:Int) (hF:jJ n rec_ref03_wrong d0=some r):Ok Tryz.prog M 37 [.agg c0.toArray] (λ_ v=>v=iL r):=by
 unfold jJ at hF
 intro M1 hM0 w0 H w p0
 replace h0:=Rep.mono hM0 _ _ h0
 obtain⟨Z1,P1,Z2,P2,rfl,B1,B2⟩:=TE0.opn h0
 refine Re 76 Tryz.func37 rfl λa0 f0=>RR (Y5 (cs:=(aTE0 d0 Z1 P1 Z2 P2)) (T:=26) f0 p0 λQ1 V1 W1 J1 R1 N1 _ f=>?_)
 have R2:=aU R1
 refine Ye f 1 λ_ f=>ah (RR (Z f (XK N1 R2 0) λ_ f=>?_))
 obtain⟨X1,l1,F1⟩:=bS hF
 refine Y9 f N1 (su n _ _ d0 h0.mo X1 l1) λW2 N2 _ f=>Ye f 1 λ_ f=>RcF f F1 (λB3 F2=>?_) λB3 F3=>?_
 ·refine RR (Ye f 1 λ_ f=>wp_ret (bl (am f rfl (Lk 2 (iL 2)) ?_)))
  cases sI F2
  exact⟨_,rfl,_,J1,N2.kr,rfl⟩
 refine St (ah (ah ?_))
 obtain⟨eF,cL,F4⟩:=bS F3
 refine aW (λa_14 W3=>∃G1,eF=G1∧∃V2,V1.le V2∧Frm 76 [(1,pP Q1),(18,bO G1)] a_14∧Hp w0 V2 (H) W3) ?_ ?_
 ·refine ay (Y f 1 λ_ f=>Y7 f N2 R2 2 rfl λ_ f=>Y f 2 λ_ f=>?_)
  rcases cE cL with⟨B4,F5⟩|⟨B4,F6⟩
  ·have f:=f.st 14 (cB B4)
   refine Ye f 4 λ_ f=>?_
   exact⟨_,(sI F5).symm,_,mL,f.kp,N2.kr⟩
  have f:=f.st 14 (cB B4)
  refine Y f 1 λ_ f=>Y7 f N2 R2 2 rfl λ_ f=>Ye f 2 λ_ f=>?_
  exact⟨_,(sI F6).symm,_,mL,f.kp,N2.kr⟩
 rintro a_14 W3 ⟨G1,eS,V2,J2,f,N3⟩
 subst eF
 refine az (RcF f F4 (λB5 F7=>?_) λB5 F8=>?_)
 ·refine RR (Ye f 1 λ_ f=>wp_ret (bl (am f rfl (Lk 2 (iL 20)) ?_)))
  cases sI F7
  exact⟨_,rfl,_,mL,N3.kr,rfl⟩
 refine St (ah (RR (Y f 1 λ_ f=>Y7 f N3 (fu R2) 3 rfl λ_ f=>?_)))
 obtain⟨X2,l2,F9⟩:=bS F8
 refine Y9 f N3 (kf n _ d0.aa X2 l2) λW4 N4 _ f=>Ye f 1 λ_ f=>RcF f F9 (λB6 F10=>?_) λB6 F11=>?_
 ·refine RR (Ye f 1 λ_ f=>wp_ret (bl (am f rfl (Lk 2 (iL 10)) ?_)))
  cases sI F10
  exact⟨_,rfl,_,mL,N4.kr,rfl⟩
 refine St (ah (RR (Ye f 1 λ_ f=>wp_block ?_)))
 obtain⟨Q2,ce,F12⟩:=bS F11
 refine wp_mono (Q:=λe a w=>(e=.ret∧(∃G2,Q2=.inl G2∧∃V4,V2.le V4∧Frm 76 [(2,iL 10)] a∧Hp w0 V4 (H) w))∨(e=.exit 0∧(∃G3,Q2=.inr G3∧∃V5,V2.le V5∧Frm 76 [(1,pP Q1)] a∧Hp w0 V5 (H) w))) (aZ (σ:=Int) (λx=>match x with|(I1,K1)=>([(1,pP Q1),(3,iL K1)],(H),λMM=>au (gU n d0) I1 K1=some Q2)) (n,(0:Int)) (f.kp) N4.kr ce ?_) ?_
 ·rintro⟨I1,K1⟩ V3 _ W5 J3 gL f N5
  have ci:=gL
  obtain⟨I2,lT,rfl,bg,T1⟩:=aK ci
  unfold gU at bg
  refine ah (RR (Y f 2 λ_ f=>Y7 f N5 (fu R2) 5 rfl λ_ f=>Ye f 2 λ_ f=>RcF f bg (λB7 F13=>?_) λB7 F19=>?_))
  ·refine St (ah (wp_block (RR (Y f 1 λ_ f=>Y7 f N5 (fu R2) 5 rfl λ_ f=>Y f 1 λ_ f=>?_))))
   obtain⟨X3,l3,F14⟩:=bS F13
   obtain⟨C1,dW,jC,D1,R3⟩:=N5.at_ B2 l3
   obtain rfl:dW=[S X3]:=D1
   refine Z f (XI jC l3) λ_ f=>Y7 f N5 R3 0 rfl λ_ f=>?_
   obtain⟨X4,l4,F15⟩:=bS F14
   refine Y9 f N5 (kf n _ X3 X4 l4) λW6 N6 _ f=>Ye f 1 λ_ f=>RcF f F15 (λB8 F16=>?_) λB8 F17=>?_
   ·refine RR (Ye f 1 λ_ f=>wp_ret (eu (bl (bl ?_))))
    cases sI F16
    exact .inl ⟨rfl,_,(sI T1).symm,_,J3,f.kp,N6.kr⟩
   refine wp_skip (ec (az (ay (Y f 1 λ_ f=>?_))))
   obtain⟨O1,F18⟩:=nS F17
   refine Y f 1 λ_ f=>?_
   have f:=f.st 29 (iW O1)
   refine Ye f 1 λ_ f=>?_
   cases sI F18
   exact⟨⟨_,_⟩,Nat.lt_succ_self _,_,J3,T1,f.kp,N6.kr⟩
  refine wp_exit (dJ (dJ ?_))
  cases sI F19
  exact .inr ⟨rfl,_,(sI T1).symm,_,J3,f.kp,N5.kr⟩
 rintro _ _ W9 (⟨rfl,G2,rfl,V4,J4,f,N7⟩|⟨rfl,G3,rfl,V5,J5,f,N8⟩)
 ·refine eu (bl (am f rfl (Lk 2 (iL 10)) ?_))
  cases sI F12
  exact⟨_,rfl,_,mL,N7.kr,rfl⟩
 refine jV (az (ah (RR (Ye f 1 λ_ f=>wp_block ?_))))
 obtain⟨Q3,nI,F20⟩:=bS F12
 refine wp_mono (Q:=λe a w=>(e=.ret∧(∃G6,Q3=.inl G6∧∃V10,V5.le V10∧Frm 76 [(2,iL 41)] a∧Hp w0 V10 (H) w))∨(e=.exit 2∧(∃G7,Q3=.inr G7∧∃V11,V5.le V11∧Frm 76 [(1,pP Q1)] a∧Hp w0 V11 (H) w))) (aZ (σ:=Int) (λx=>match x with|(I3,K2)=>([(1,pP Q1),(4,iL K2)],(H),λMM=>au (gu n d0) I3 K2=some Q3)) (n,(0:Int)) (f.kp) N8.kr nI ?_) ?_
 ·rintro⟨I3,K2⟩ V6 _ W10 J6 I_2 f N9
  have nv:=I_2
  obtain⟨I4,r_2,rfl,kM,T2⟩:=aK nv
  unfold gu at kM
  refine ah (RR (Y f 2 λ_ f=>Y7 f N9 (fu R2) 5 rfl λ_ f=>Ye f 2 λ_ f=>RcF f kM (λB9 F21=>?_) λB9 F31=>?_))
  ·refine St (ah (wp_block (RR (Ye f 1 λ_ f=>wp_block ?_))))
   obtain⟨Q4,hL_3,F22⟩:=bS F21
   refine wp_mono (Q:=λe a w=>(e=.ret∧(∃G4,Q4=.inl G4∧∃V8,V6.le V8∧Frm 76 [(2,iL 41)] a∧Hp w0 V8 (H) w))∨(e=.exit 4∧(∃G5,Q4=.inr G5∧∃V9,V6.le V9∧Frm 76 (kpL [1,4] f.fr) a∧Hp w0 V9 (H) w))) (aZ (σ:=Int) (λx=>match x with|(I5,K3)=>(((5,iL K3)::kpL [1,4] f.fr),(H),λMM=>au (gV n d0 K2) I5 K3=some Q4)) (n,(0:Int)) (f.kp) N9.kr hL_3 ?_) ?_
   ·rintro⟨I5,K3⟩ V7 _ W11 J7 I_3 f N10
    have I_3L:=I_3
    obtain⟨I6,r_3,rfl,hs_3,T3⟩:=aK I_3L
    unfold gV at hs_3
    refine ah (RR (Ye f 3 λ_ f=>RcF f hs_3 (λB10 F23=>?_) λB10 F29=>?_))
    ·refine St (ah (wp_block (ah (iG N10 kr kr (Y2 default f 1 λ_ f=>gx f (fu R2) 5 rfl kr kr λ_ f=>Y2 default f 1 λ_ f=>?_)))))
     obtain⟨X5,l5,F24⟩:=bS F23
     obtain⟨C2,ie,ly,D2,R4⟩:=Sli.aM V7 B2 l5
     obtain rfl:ie=[S X5]:=D2
     refine bD f kr (λ_ pq=>XI ly l5) λ_ f=>gx f R4 0 rfl kr kr λ_ f=>Y2 default f 1 λ_ f=>gx f (fu R2) 5 rfl kr kr λ_ f=>Y2 default f 1 λ_ f=>?_
     obtain⟨X6,l6,F25⟩:=bS F24
     obtain⟨C3,lQ,qm,D3,R5⟩:=Sli.aM V7 B2 l6
     obtain rfl:lQ=[S X6]:=D3
     refine bD f kr (λ_ pq=>XI qm l6) λ_ f=>gx f R5 0 rfl kr kr λ_ f=>bD (v:=bO (decide (X5=X6))) f kr (λ_ pq=>Y11 rfl (l:=X5) (m:=X6)) λ_ f=>iS rfl ?_
     intro W12 N11
     refine az (RcF f F25 (λB11 F26=>?_) λB11 F27=>?_)
     ·refine RR (Ye f 1 λ_ f=>wp_ret (eu (bl (bl ?_))))
      cases sI F26
      exact .inl ⟨rfl,_,(sI T3).symm,_,J7,f.kp,N11.kr⟩
     refine wp_skip (ec (az (ay (Y f 1 λ_ f=>?_))))
     obtain⟨O2,F28⟩:=nS F27
     refine Y f 1 λ_ f=>?_
     have f:=f.st 48 (iW O2)
     refine Ye f 1 λ_ f=>?_
     cases sI F28
     exact⟨⟨_,_⟩,Nat.lt_succ_self _,_,J7,T3,f.kp,N11.kr⟩
    refine wp_exit (dJ (dJ ?_))
    cases sI F29
    exact .inr ⟨rfl,_,(sI T3).symm,_,J7,f.kp,N10.kr⟩
   rintro _ _ W15 (⟨rfl,G4,rfl,V8,J8,f,N12⟩|⟨rfl,G5,rfl,V9,J9,f,N13⟩)
   ·refine eu (eu (bl (bl ?_)))
    cases sI F22
    exact .inl ⟨rfl,_,(sI T2).symm,_,mL,f.kp,N12.kr⟩
   refine jV (ec (az (ay (Y f 1 λ_ f=>?_))))
   obtain⟨O3,F30⟩:=nS F22
   refine Y f 1 λ_ f=>?_
   have f:=f.st 43 (iW O3)
   refine Ye f 1 λ_ f=>?_
   cases sI F30
   exact⟨⟨_,_⟩,Nat.lt_succ_self _,_,mL,T2,f.kp,N13.kr⟩
  refine wp_exit (dJ (dJ ?_))
  cases sI F31
  exact .inr ⟨rfl,_,(sI T2).symm,_,J6,f.kp,N9.kr⟩
 rintro _ _ W18 (⟨rfl,G6,rfl,V10,J10,f,N14⟩|⟨rfl,G7,rfl,V11,J11,f,N15⟩)
 ·refine eu (bl (am f rfl (Lk 2 (iL 41)) ?_))
  cases sI F20
  exact⟨_,rfl,_,mL,N14.kr,rfl⟩
 refine jV (az (ah (RR (Ye f 1 λ_ f=>wp_block ?_))))
 obtain⟨Q5,hL_4,F32⟩:=bS F20
 refine wp_mono (Q:=λe a w=>(e=.ret∧(∃G8,Q5=.inl G8∧∃V13,V11.le V13∧Frm 76 [(2,iL G8)] a∧Hp w0 V13 (H) w))∨(e=.exit 6∧(∃G9,Q5=.inr G9∧∃V14,V11.le V14∧Frm 76 [] a∧Hp w0 V14 (H) w))) (aZ (σ:=Int) (λx=>match x with|(I7,K4)=>([(1,pP Q1),(6,iL K4)],(H),λMM=>au (gW n rec_ref03_wrong d0) I7 K4=some Q5)) (n,(0:Int)) (f.kp) N15.kr hL_4 ?_) ?_
 ·rintro⟨I7,K4⟩ V12 _ W19 J12 I_4 f N16
  have I_4L:=I_4
  obtain⟨I8,r_4,rfl,hs_4,T4⟩:=aK I_4L
  unfold gW at hs_4
  refine ah (RR (Y f 2 λ_ f=>Y7 f N16 (fu R2) 4 rfl λ_ f=>Ye f 2 λ_ f=>RcF f hs_4 (λB12 F33=>?_) λB12 F39=>?_))
  ·refine St (ah (wp_block (RR (Y f 1 λ_ f=>Y7 f N16 (fu R2) 4 rfl λ_ f=>Y f 1 λ_ f=>?_))))
   obtain⟨X7,l7,F34⟩:=bS F33
   obtain⟨C4,rJ,qn,D4,R6⟩:=N16.at_ B1 l7
   obtain⟨Z3,P3,Z4,P4,rfl,B13,B14⟩:=TE0.opn D4
   refine Z f (XI qn l7) λ_ f=>Z f (XK N16 R6 0) λ_ f=>?_
   obtain⟨X8,l8,F35⟩:=bS F34
   refine Y9 f N16 (hrec_ref03_wrong _ _ X7 D4.mo X8 l8) λW20 N17 _ f=>Ye f 1 λ_ f=>RR (Ye f 2 λ_ f=>RcF f F35 (λB15 F36=>?_) λB15 F37=>?_)
   ·refine RR (Ye f 2 λ_ f=>wp_ret (eu (bl (bl ?_))))
    cases sI F36
    exact .inl ⟨rfl,_,(sI T4).symm,_,J12,f.kp,N17.kr⟩
   refine wp_skip (ec (az (ay (Y f 1 λ_ f=>?_))))
   obtain⟨O4,F38⟩:=nS F37
   refine Y f 1 λ_ f=>?_
   have f:=f.st 66 (iW O4)
   refine Ye f 1 λ_ f=>?_
   cases sI F38
   exact⟨⟨_,_⟩,Nat.lt_succ_self _,_,J12,T4,f.kp,N17.kr⟩
  refine wp_exit (dJ (dJ ?_))
  cases sI F39
  exact .inr ⟨rfl,_,(sI T4).symm,_,J12,f.kp,N16.kr⟩
 rintro _ _ W23 (⟨rfl,G8,rfl,V13,J13,f,N18⟩|⟨rfl,G9,rfl,V14,J14,f,N19⟩)
 ·refine eu (bl (am f rfl (Lk 2 (iL G8)) ?_))
  cases sI F32
  exact⟨_,rfl,_,mL,N18.kr,rfl⟩
 refine jV (az (RR (Ye f 1 λ_ f=>wp_ret (am f rfl (Lk 2 (iL 0)) ?_))))
 cases sI F32
 exact⟨_,rfl,_,mL,N19.kr,rfl⟩
def gd (n:Nat):Nat→TE0→Option Int
 |0=>λ_=>none
 |k+1=>jJ n (gd n k)
def nQ (n:Nat) (d0:TE0):Option Int:=gd n n d0
theorem sw (n:Nat) (M:Mem) (c0:Lv) (d0:TE0) (h0:Rep M (ai d0) c0) (r:Int) (hF:nQ n d0=some r):Ok Tryz.prog M 37 [.agg c0.toArray] (λ_ v=>v=iL r):=by
 have key: ∀ (k:Nat) (M:Mem) (c0:Lv) (d0:TE0) (h0:Rep M (ai d0) c0) (r:Int) (hF:gd n k d0=some r),Ok Tryz.prog M 37 [.agg c0.toArray] (λ_ v=>v=iL r):=by
  intro k
  induction k with
  |zero=>intro M c0 d0 h0 r hF;simp[gd] at hF
  |succ k ih=>intro M c0 d0 h0 r hF;exact qB n (gd n k) ih M c0 d0 h0 r hF
 exact key n M c0 d0 h0 r hF
def jX (n:Nat) (d0:TE0):Option Int:=
 (mT n d0 (24:Int)).bind λX1=>
 bif X1 then
  (some ((30:Int)))
 else
  (nQ n d0).bind λX2=>
  bif(!(decide (X2=0))) then
   (some (X2))
  else
   (nP n d0).bind λX3=>
   bif(decide ((4096:Int)<X3)) then
    (some ((3:Int)))
   else
    some ((0:Int))
theorem nO (n:Nat) (M:Mem) (c0:Lv) (d0:TE0) (h0:Rep M (ai d0) c0) (r:Int) (hF:jX n d0=some r):Ok Tryz.prog M 19 [.agg c0.toArray] (λ_ v=>v=iL r):=by
 unfold jX at hF
 intro M1 hM0 w0 H w p0
 replace h0:=Rep.mono hM0 _ _ h0
 obtain⟨Z1,P1,Z2,P2,rfl,B1,B2⟩:=TE0.opn h0
 refine Re 14 Tryz.func19 rfl λa0 f0=>RR (Y5 (cs:=(aTE0 d0 Z1 P1 Z2 P2)) (T:=26) f0 p0 λQ1 V1 W1 J1 R1 N1 _ f=>?_)
 have R2:=aU R1
 refine Ye f 1 λ_ f=>ah (RR (Z f (XK N1 R2 0) λ_ f=>?_))
 obtain⟨X1,l1,F1⟩:=bS hF
 refine Y9 f N1 (rf n _ _ d0 h0.mo (24:Int) X1 l1) λW2 N2 _ f=>eT (RcF f F1 (λB3 F2=>?_) λB3 F3=>?_)
 ·refine RR (Ye f 1 λ_ f=>wp_ret (bl (am f rfl (Lk 2 (iL 30)) ?_)))
  cases sI F2
  exact⟨_,rfl,_,J1,N2.kr,rfl⟩
 refine St (RR (Z f (XK N2 R2 0) λ_ f=>?_))
 obtain⟨X2,l2,F4⟩:=bS F3
 refine Y9 f N2 (sw n _ _ d0 h0.mo X2 l2) λW3 N3 _ f=>Ye f 1 λ_ f=>ah (RR (Ye f 2 λ_ f=>RcF f F4 (λB4 F5=>?_) λB4 F6=>?_))
 ·refine RR (Ye f 2 λ_ f=>wp_ret (bl (am f rfl (Lk 2 (iL X2)) ?_)))
  cases sI F5
  exact⟨_,rfl,_,J1,N3.kr,rfl⟩
 refine St (ah (RR (Z f (XK N3 R2 0) λ_ f=>?_)))
 obtain⟨X3,l3,F7⟩:=bS F6
 refine Y9 f N3 (sq n _ _ d0 h0.mo X3 l3) λW4 N4 _ f=>Ye f 1 λ_ f=>RcF f F7 (λB5 F8=>?_) λB5 F9=>?_
 ·refine RR (Ye f 1 λ_ f=>wp_ret (bl (am f rfl (Lk 2 (iL 3)) ?_)))
  cases sI F8
  exact⟨_,rfl,_,J1,N4.kr,rfl⟩
 refine St (RR (Ye f 1 λ_ f=>wp_ret (am f rfl (Lk 2 (iL 0)) ?_)))
 cases sI F9
 exact⟨_,rfl,_,J1,N4.kr,rfl⟩
def iE (n:Nat) (rec_tree_depth:TE0→Int→Option Int) (d0:TE0) (d1:Int) (K1:Int×Int):Option (Lp (Int×Int) Int):=
    bif(decide (K1.2<((d0.ac.length:Nat):Int))) then
     (bif(decide ((0:Int)<d1)) then
      ((aB d0.ac K1.2).bind λX1=>
      aL (inR .i64 (d1-1))<|
      (rec_tree_depth X1 (d1-1)).bind λX2=>
      aL (inR .i64 (K1.2+1))<|
      some (.nx (max K1.1 X2,K1.2+1)))
     else
      aL (inR .i64 (K1.2+1))<|
      some (.nx (K1.1,K1.2+1)))
    else
     some (.br K1.1)
def kv (n:Nat) (rec_tree_depth:TE0→Int→Option Int) (d0:TE0) (d1:Int):Option Int:=
 (au (iE n rec_tree_depth d0 d1) n ((0:Int),(0:Int))).bind λG1=>
 aL (inR .i64 (G1+1))<|
 some (G1+1)
set_option maxRecDepth 20000 in
theorem rm (n:Nat) (rec_tree_depth:TE0→Int→Option Int) (hrec_tree_depth: ∀ (M:Mem) (ad0:Addr) (c0:Lv) (d0:TE0) (h0:Rep M (ai d0) c0) (q0: ∀j v,c0[j]? =some v→M.cell? (ad0.add j)=some v) (d1:Int) (r:Int) (hF:rec_tree_depth d0 d1=some r),Ok Tryz.prog M 28 [Pa ad0,iL d1] (λ_ v=>v=iL r)) (M:Mem) (ad0:Addr) (c0:Lv) (d0:TE0) (h0:Rep M (ai d0) c0) (q0: ∀j v,c0[j]? =some v→M.cell? (ad0.add j)=some v) (d1:Int) (r:Int) (hF:kv n rec_tree_depth d0 d1=some r):Ok Tryz.prog M 28 [Pa ad0,iL d1] (λ_ v=>v=iL r):=by
 unfold kv at hF
 intro M1 hM0 w0 H w p0
 replace h0:=Rep.mono hM0 _ _ h0
 replace q0:=λj v h=>hM0.cell (q0 j v h)
 obtain⟨Z1,P1,Z2,P2,rfl,B1,B2⟩:=TE0.opn h0
 refine Re 31 Tryz.func28 rfl λa0 f0=>RR (Ye f0 1 λ_ f=>RR (Ye f 1 λ_ f=>ah (RR (Y f 3 λ_ f=>Y7 f p0 q0 4 rfl λ_ f=>Ye f 2 λ_ f=>wp_block ?_))))
 obtain⟨Q1,ce,F1⟩:=bS hF
 refine wp_mono (Q:=λe a w=>(e=.exit 0∧(∃G1,Q1=G1∧∃V2,M1.le V2∧Frm 31 [(5,iL G1)] a∧Hp w0 V2 (H) w))) (aZ (σ:=(Int×Int)) (λx=>match x with|(I1,K1)=>(((5,iL K1.1)::(12,iL K1.2)::kpL [0,1,11] f.fr),(H),λMM=>au (iE n rec_tree_depth d0 d1) I1 K1=some Q1)) (n,((0:Int),(0:Int))) (f.kp) p0.kr ce ?_) ?_
 ·rintro⟨I1,K1⟩ V1 _ W1 J1 gL f N1
  have ci:=gL
  obtain⟨I2,lT,rfl,bg,T1⟩:=aK ci
  unfold iE at bg
  refine RR (Ye f 1 λ_ f=>ah (RcF f bg (λB3 F2=>?_) λB3 F10=>?_))
  ·refine St (ah (wp_block (RR (Ye f 2 λ_ f=>RR (Ye f 2 λ_ f=>RcF f F2 (λB4 F3=>?_) λB4 F8=>?_)))))
   ·refine ay (Y f 4 λ_ f=>Y7 f N1 (fu q0) 4 rfl λ_ f=>Y f 1 λ_ f=>?_)
    obtain⟨X1,l1,F4⟩:=bS F3
    obtain⟨C1,dW,jC,D1,R1⟩:=N1.at_ B1 l1
    obtain⟨Z3,P3,Z4,P4,rfl,B5,B6⟩:=TE0.opn D1
    refine Z f (XI jC l1) λ_ f=>Y f 1 λ_ f=>?_
    obtain⟨O1,F5⟩:=nS F4
    refine Y f 1 λ_ f=>?_
    have f:=f.st 25 (iW O1)
    obtain⟨X2,l2,F6⟩:=bS F5
    refine Y9 f N1 (hrec_tree_depth _ (C1.add (K1.2.toNat*6)) (lTE0 X1 Z3 P3 Z4 P4) X1 D1.mo (bF (R1) 0 rfl) (d1-1) X2 l2) λW2 N2 _ f=>Z (v:=iL (max K1.1 X2)) f (X_max (k:=.i64) (a:=K1.1) (b:=X2) rfl kr kr) λ_ f=>Y f 1 λ_ f=>ag rfl (ec (az (ay ?_)))
    obtain⟨O2,F7⟩:=nS F6
    refine Y f 1 λ_ f=>?_
    have f:=f.st 28 (iW O2)
    refine Ye f 1 λ_ f=>?_
    cases sI F7
    exact⟨⟨_,_⟩,Nat.lt_succ_self _,_,J1,T1,f.kp,N2.kr⟩
   refine wp_skip (ec (az (ay ?_)))
   obtain⟨O3,F9⟩:=nS F8
   refine Y f 1 λ_ f=>?_
   have f:=f.st 28 (iW O3)
   refine Ye f 1 λ_ f=>?_
   cases sI F9
   exact⟨⟨_,_⟩,Nat.lt_succ_self _,_,J1,T1,f.kp,N1.kr⟩
  refine wp_exit (dJ (dJ ?_))
  cases sI F10
  exact⟨rfl,_,(sI T1).symm,_,J1,f.kp,N1.kr⟩
 rintro _ _ W4 ⟨rfl,G1,hq_,V2,J2,f,N3⟩
 subst Q1
 refine jV (az (RR (Y f 1 λ_ f=>?_)))
 obtain⟨O4,F11⟩:=nS F1
 refine Y f 1 λ_ f=>?_
 have f:=f.st 30 (iW O4)
 refine Ye f 1 λ_ f=>wp_ret (am f rfl (Lk 4 (iL (G1+1))) ?_)
 cases sI F11
 exact⟨_,rfl,_,J2,N3.kr,rfl⟩
def gK (n:Nat):Nat→TE0→Int→Option Int
 |0=>λ_ _=>none
 |k+1=>kv n (gK n k)
def pk (n:Nat) (d0:TE0) (d1:Int):Option Int:=gK n n d0 d1
theorem tc (n:Nat) (M:Mem) (ad0:Addr) (c0:Lv) (d0:TE0) (h0:Rep M (ai d0) c0) (q0: ∀j v,c0[j]? =some v→M.cell? (ad0.add j)=some v) (d1:Int) (r:Int) (hF:pk n d0 d1=some r):Ok Tryz.prog M 28 [Pa ad0,iL d1] (λ_ v=>v=iL r):=by
 have key: ∀ (k:Nat) (M:Mem) (ad0:Addr) (c0:Lv) (d0:TE0) (h0:Rep M (ai d0) c0) (q0: ∀j v,c0[j]? =some v→M.cell? (ad0.add j)=some v) (d1:Int) (r:Int) (hF:gK n k d0 d1=some r),Ok Tryz.prog M 28 [Pa ad0,iL d1] (λ_ v=>v=iL r):=by
  intro k
  induction k with
  |zero=>intro M ad0 c0 d0 h0 q0 d1 r hF;simp[gK] at hF
  |succ k ih=>intro M ad0 c0 d0 h0 q0 d1 r hF;exact rm n (gK n k) ih M ad0 c0 d0 h0 q0 d1 r hF
 exact key n M ad0 c0 d0 h0 q0 d1 r hF
end Go.Proofs.YtkopljikappieaaGreatDoor
end
section
namespace Go.Proofs
open Go.Shelf
def Tryz.lays103_ren:Go.Shelf.Ren:=⟨λ |103=>115|210=>138|206=>139|n=>n,λ |9=>9|4=>4|24=>137|3=>3|n=>n,λ |n=>n⟩
theorem Tryz.lays103:Go.Proofs.Lays.n103 Tryz.prog Tryz.lays103_ren:={
 mixed:=by kernel_rfl
 f103:=Tryz.func115.trans (congrArg some kr)
 f206:=Tryz.func139.trans (congrArg some kr)
 f210:=Tryz.func138.trans (congrArg some kr)
 t3:=Tryz.underlying3
 a3:=Tryz.isAgg3
 z3:=Tryz.sizeOf3
 v3:=Tryz.zeroValue3
 t4:=Tryz.underlying4
 a4:=Tryz.isAgg4
 z4:=Tryz.sizeOf4
 v4:=Tryz.zeroValue4
 t9:=Tryz.underlying9
 a9:=Tryz.isAgg9
 z9:=Tryz.sizeOf9
 v9:=Tryz.zeroValue9
 t24:=Tryz.underlying137
 a24:=Tryz.isAgg137
 z24:=Tryz.sizeOf137
 v24:=Tryz.zeroValue137}
open Go.RowKit in
theorem Tryz.strings_CutPrefix (s p:ByteArray) (w:World):
 Calls Tryz.prog 115 #[.string s,.string p] w λe w'=>e=.returned (.tuple #[.string ⟨(Lib.trimPrefix s.data.toList p.data.toList).toArray⟩,.bool (Lib.hasPrefix s.data.toList p.data.toList)])∧w'=w:=Any.strings_CutPrefix Tryz.lays103 s p w
def Tryz.lays145_ren:Go.Shelf.Ren:=⟨λ |145=>141|220=>155|219=>163|217=>165|225=>166|224=>167|267=>168|266=>169|314=>170|n=>n,λ |9=>9|4=>4|59=>174|3=>3|5=>5|46=>163|146=>202|51=>186|n=>n,λ |1=>2|n=>n⟩
theorem Tryz.lays145:Go.Proofs.Lays.n145 Tryz.prog Tryz.lays145_ren:={
 mixed:=by kernel_rfl
 f145:=Tryz.func141.trans (congrArg some kr)
 f217:=Tryz.func165.trans (congrArg some kr)
 f219:=Tryz.func163.trans (congrArg some kr)
 f220:=Tryz.func155.trans (congrArg some kr)
 f224:=Tryz.func167.trans (congrArg some kr)
 f225:=Tryz.func166.trans (congrArg some kr)
 f266:=Tryz.func169.trans (congrArg some kr)
 f267:=Tryz.func168.trans (congrArg some kr)
 f314:=Tryz.func170.trans (congrArg some kr)
 t3:=Tryz.underlying3
 a3:=Tryz.isAgg3
 z3:=Tryz.sizeOf3
 v3:=Tryz.zeroValue3
 t4:=Tryz.underlying4
 a4:=Tryz.isAgg4
 z4:=Tryz.sizeOf4
 v4:=Tryz.zeroValue4
 t5:=Tryz.underlying5
 a5:=Tryz.isAgg5
 z5:=Tryz.sizeOf5
 v5:=Tryz.zeroValue5
 t9:=Tryz.underlying9
 a9:=Tryz.isAgg9
 z9:=Tryz.sizeOf9
 v9:=Tryz.zeroValue9
 t46:=Tryz.underlying163
 a46:=Tryz.isAgg163
 z46:=Tryz.sizeOf163
 v46:=Tryz.zeroValue163
 t51:=Tryz.underlying186
 a51:=Tryz.isAgg186
 z51:=Tryz.sizeOf186
 v51:=Tryz.zeroValue186
 t59:=Tryz.underlying174
 a59:=Tryz.isAgg174
 z59:=Tryz.sizeOf174
 v59:=Tryz.zeroValue174
 t146:=Tryz.underlying202
 a146:=Tryz.isAgg202
 z146:=Tryz.sizeOf202
 v146:=Tryz.zeroValue202
 g1:=by kernel_rfl}
open Go.RowKit Go.Lib in
theorem Tryz.strings_Cut (s sep:ByteArray) (m:Int) (w:World) (hs:s.size<4294967281) (hm:w.cell? ⟨2,0,none⟩=some (.int .i64 m)):
 Calls Tryz.prog 141 #[.string s,.string sep] w λe w'=>e=.returned (.tuple #[.string ⟨(Lib.cut s.data.toList sep.data.toList).1.toArray⟩,.string ⟨(Lib.cut s.data.toList sep.data.toList).2.1.toArray⟩,.bool (Lib.cut s.data.toList sep.data.toList).2.2])∧∃n,w'=w.drewN n:=Any.strings_Cut Tryz.lays145 s sep m w hs hm
def Tryz.lays190_ren:Go.Shelf.Ren:=⟨λ |190=>96|125=>133|258=>132|128=>152|129=>153|302=>143|303=>144|304=>145|305=>146|306=>147|307=>148|308=>149|309=>150|310=>151|333=>157|329=>158|330=>159|334=>160|335=>161|336=>162|344=>164|n=>n,λ |31=>24|9=>9|3=>3|46=>163|0=>0|51=>186|53=>188|4=>4|183=>179|182=>178|131=>183|5=>5|218=>191|222=>195|228=>198|229=>154|n=>n,λ |n=>n⟩
theorem Tryz.lays190:Go.Proofs.Lays.n190 Tryz.prog Tryz.lays190_ren:={
 mixed:=by kernel_rfl
 f125:=Tryz.func133.trans (congrArg some kr)
 f128:=Tryz.func152.trans (congrArg some kr)
 f129:=Tryz.func153.trans (congrArg some kr)
 f190:=Tryz.func96.trans (congrArg some kr)
 f258:=Tryz.func132.trans (congrArg some kr)
 f302:=Tryz.func143.trans (congrArg some kr)
 f303:=Tryz.func144.trans (congrArg some kr)
 f304:=Tryz.func145.trans (congrArg some kr)
 f305:=Tryz.func146.trans (congrArg some kr)
 f306:=Tryz.func147.trans (congrArg some kr)
 f307:=Tryz.func148.trans (congrArg some kr)
 f308:=Tryz.func149.trans (congrArg some kr)
 f309:=Tryz.func150.trans (congrArg some kr)
 f310:=Tryz.func151.trans (congrArg some kr)
 f329:=Tryz.func158.trans (congrArg some kr)
 f330:=Tryz.func159.trans (congrArg some kr)
 f333:=Tryz.func157.trans (congrArg some kr)
 f334:=Tryz.func160.trans (congrArg some kr)
 f335:=Tryz.func161.trans (congrArg some kr)
 f336:=Tryz.func162.trans (congrArg some kr)
 f344:=Tryz.func164.trans (congrArg some kr)
 t0:=Tryz.underlying0
 a0:=Tryz.isAgg0
 z0:=Tryz.sizeOf0
 v0:=Tryz.zeroValue0
 t3:=Tryz.underlying3
 a3:=Tryz.isAgg3
 z3:=Tryz.sizeOf3
 v3:=Tryz.zeroValue3
 t4:=Tryz.underlying4
 a4:=Tryz.isAgg4
 z4:=Tryz.sizeOf4
 v4:=Tryz.zeroValue4
 t5:=Tryz.underlying5
 a5:=Tryz.isAgg5
 z5:=Tryz.sizeOf5
 v5:=Tryz.zeroValue5
 t9:=Tryz.underlying9
 a9:=Tryz.isAgg9
 z9:=Tryz.sizeOf9
 v9:=Tryz.zeroValue9
 t31:=Tryz.underlying24
 a31:=Tryz.isAgg24
 z31:=Tryz.sizeOf24
 v31:=Tryz.zeroValue24
 t46:=Tryz.underlying163
 a46:=Tryz.isAgg163
 z46:=Tryz.sizeOf163
 v46:=Tryz.zeroValue163
 t51:=Tryz.underlying186
 a51:=Tryz.isAgg186
 z51:=Tryz.sizeOf186
 v51:=Tryz.zeroValue186
 t53:=Tryz.underlying188
 a53:=Tryz.isAgg188
 z53:=Tryz.sizeOf188
 v53:=Tryz.zeroValue188
 t131:=Tryz.underlying183
 a131:=Tryz.isAgg183
 z131:=Tryz.sizeOf183
 v131:=Tryz.zeroValue183
 t182:=Tryz.underlying178
 a182:=Tryz.isAgg178
 z182:=Tryz.sizeOf178
 v182:=Tryz.zeroValue178
 t183:=Tryz.underlying179
 a183:=Tryz.isAgg179
 z183:=Tryz.sizeOf179
 v183:=Tryz.zeroValue179
 t218:=Tryz.underlying191
 a218:=Tryz.isAgg191
 z218:=Tryz.sizeOf191
 v218:=Tryz.zeroValue191
 t222:=Tryz.underlying195
 a222:=Tryz.isAgg195
 z222:=Tryz.sizeOf195
 v222:=Tryz.zeroValue195
 t228:=Tryz.underlying198
 a228:=Tryz.isAgg198
 z228:=Tryz.sizeOf198
 v228:=Tryz.zeroValue198
 t229:=Tryz.underlying154
 a229:=Tryz.isAgg154
 z229:=Tryz.sizeOf154
 v229:=Tryz.zeroValue154}
open Go.Sort Go.RowKit in
theorem Tryz.slices_Sort_string (blk off cap:Nat) (ss:List Bs) (w:World) (hH:Holds encStr w blk off ss.toArray) (hblk:blk<w.heap.size) (hsz:ss.length<4611686018427387904):
 Calls Tryz.prog 96 #[.slice (some ⟨blk,off,none⟩) ss.length cap] w λe w'=>
  e=.returned (.tuple #[])∧∃n os,w'=grow (putRow encStr (Sort.ahead w n) blk off (ss.mergeSort λx y=>decide (x≤y)).toArray) os:=Any.slices_Sort_string Tryz.lays190 blk off cap ss w hH hblk hsz
def Tryz.lays99_ren:Go.Shelf.Ren:=⟨λ |99=>120|206=>139|n=>n,λ |9=>9|4=>4|3=>3|n=>n,λ |n=>n⟩
theorem Tryz.lays99:Go.Proofs.Lays.n99 Tryz.prog Tryz.lays99_ren:={
 mixed:=by kernel_rfl
 f99:=Tryz.func120.trans (congrArg some kr)
 f206:=Tryz.func139.trans (congrArg some kr)
 t3:=Tryz.underlying3
 a3:=Tryz.isAgg3
 z3:=Tryz.sizeOf3
 v3:=Tryz.zeroValue3
 t4:=Tryz.underlying4
 a4:=Tryz.isAgg4
 z4:=Tryz.sizeOf4
 v4:=Tryz.zeroValue4
 t9:=Tryz.underlying9
 a9:=Tryz.isAgg9
 z9:=Tryz.sizeOf9
 v9:=Tryz.zeroValue9}
open Go.RowKit Go.Lib in
theorem Tryz.strings_HasPrefix (s p:ByteArray) (w:World):
 Calls Tryz.prog 120 #[.string s,.string p] w λe w'=>e=.returned (.bool (Lib.hasPrefix s.data.toList p.data.toList))∧w'=w:=Any.strings_HasPrefix Tryz.lays99 s p w
open Go.RowKit Go.Sort in
theorem Tryz.slices_Sort_string_none (p:Oa) (cap:Nat) (w:World):
 Calls Tryz.prog 96 #[.slice p 0 cap] w λe w'=>e=.returned (.tuple #[])∧w'=w:=Any.slices_Sort_string_none Tryz.lays190 p cap w
end Go.Proofs
end
section
namespace Go.Proofs
open Go Go.Shelf
def Tryz.lays196_ren:Go.Shelf.Ren:=⟨λ |196=>112|259=>135|n=>n,λ |46=>163|53=>188|119=>168|138=>170|139=>171|n=>n,λ |3=>0|4=>1|n=>n⟩
theorem Tryz.lays196:Go.Proofs.Lays.n196 Tryz.prog Tryz.lays196_ren:={
 mixed:=by kernel_rfl
 f196:=Tryz.func112.trans (congrArg some kr)
 f259:=Tryz.func135.trans (congrArg some kr)
 t0:=Tryz.underlying0
 a0:=Tryz.isAgg0
 z0:=Tryz.sizeOf0
 v0:=Tryz.zeroValue0
 t3:=Tryz.underlying3
 a3:=Tryz.isAgg3
 z3:=Tryz.sizeOf3
 v3:=Tryz.zeroValue3
 t4:=Tryz.underlying4
 a4:=Tryz.isAgg4
 z4:=Tryz.sizeOf4
 v4:=Tryz.zeroValue4
 t5:=Tryz.underlying5
 a5:=Tryz.isAgg5
 z5:=Tryz.sizeOf5
 v5:=Tryz.zeroValue5
 t9:=Tryz.underlying9
 a9:=Tryz.isAgg9
 z9:=Tryz.sizeOf9
 v9:=Tryz.zeroValue9
 t12:=Tryz.underlying12
 a12:=Tryz.isAgg12
 z12:=Tryz.sizeOf12
 v12:=Tryz.zeroValue12
 t46:=Tryz.underlying163
 a46:=Tryz.isAgg163
 z46:=Tryz.sizeOf163
 v46:=Tryz.zeroValue163
 t53:=Tryz.underlying188
 a53:=Tryz.isAgg188
 z53:=Tryz.sizeOf188
 v53:=Tryz.zeroValue188
 t119:=Tryz.underlying168
 a119:=Tryz.isAgg168
 z119:=Tryz.sizeOf168
 t138:=Tryz.underlying170
 a138:=Tryz.isAgg170
 z138:=Tryz.sizeOf170
 v138:=Tryz.zeroValue170
 t139:=Tryz.underlying171
 a139:=Tryz.isAgg171
 z139:=Tryz.sizeOf171
 v139:=Tryz.zeroValue171
 g3:=by kernel_rfl
 g4:=by kernel_rfl}
end Go.Proofs
end
section
namespace Go.Proofs.YtkopljikappieaaGreatDoor
open Go Go.Vc Go.RowKit
def GL (M:Mem):Prop:=Tabs 0 1 M∧IntVar 2 M
theorem GL.mono {M M':Mem} (hM:M.le M') (h:GL M):GL M':=⟨h.1.mono hM,h.2.mono hM⟩
theorem GL.mo {M M':Mem} (h:GL M) (hM:M.le M':=by repeat (first|with_reducible assumption|with_reducible exact Mem.le_refl _|refine Mem.le.trans ?_ (by with_reducible assumption))):GL M':=GL.mono hM h
def jG (_:Nat) (d0:Bs):Option Bool:=aL ((d0.length:Int)≤9223372036854775807) (some (Lib.validD d0))
theorem qr (n:Nat) (M:Mem) (hG:GL M) (d0:Bs) (r:Bool) (hF:jG n d0=some r):Ok Tryz.prog M 112 [S d0] (λ_ v=>v=bO r):=by
 unfold jG at hF
 obtain⟨g,hF⟩:=ov hF
 obtain rfl:=Option.some.inj hF
 refine Ok.ofBelow λM2 w0 H w hM hp=>?_
 exact Any.utf8_ValidString Tryz.lays196 (mkS d0) w (by have: (mkS d0).size=d0.length:=rfl;omega) ((hG.1.mono hM).at hp)
def nK (_:Nat) (d0 d1:Bs):Option Bool:=some (Lib.hasPrefix d0 d1)
theorem rV (n:Nat) (M:Mem) (hG:GL M) (d0 d1:Bs) (r:Bool) (hF:nK n d0 d1=some r):Ok Tryz.prog M 120 [S d0,S d1] (λ_ v=>v=bO r):=by
 have _:=hG
 obtain rfl:=Option.some.inj hF
 exact Ok.ofPure λw=>Tryz.strings_HasPrefix (mkS d0) (mkS d1) w
def nJ (_:Nat) (d0 d1:Bs):Option (Bs×Bool):=some (Lib.trimPrefix d0 d1,Lib.hasPrefix d0 d1)
theorem rU (n:Nat) (M:Mem) (hG:GL M) (d0 d1:Bs) (r:Bs×Bool) (hF:nJ n d0 d1=some r):Ok Tryz.prog M 115 [S d0,S d1] (λ_ v=>v=.tuple #[S r.1,bO r.2]):=by
 have _:=hG
 obtain rfl:=Option.some.inj hF
 exact Ok.ofPure λw=>Tryz.strings_CutPrefix (mkS d0) (mkS d1) w
def h_Cut (_:Nat) (d0 d1:Bs):Option (Bs×Bs×Bool):=aL (d0.length<4294967281) (some (Lib.cut d0 d1))
theorem h_Cut_ok (n:Nat) (M:Mem) (hG:GL M) (d0 d1:Bs) (r:Bs×Bs×Bool) (hF:h_Cut n d0 d1=some r):Ok Tryz.prog M 141 [S d0,S d1] (λ_ v=>v=.tuple #[S r.1,S r.2.1,bO r.2.2]):=by
 unfold h_Cut at hF
 obtain⟨g,hF⟩:=ov hF
 obtain rfl:=Option.some.inj hF
 obtain⟨m,hm⟩:=hG.2
 exact Ok.ofDrew λM2 w0 H w hM hp=>Tryz.strings_Cut (mkS d0) (mkS d1) m w g (hp.cell (hM.cell hm))
set_option maxRecDepth 100000 in
theorem walk_iter (v:TE0) (hlen: (dr v).length≤9223372036854775806) (M:Mem) (bv:Nat) (cs:Lv) (hrep:Rep M (ai v) cs) (hbv: ∀j u,cs[j]? =some u→M.cell? ((⟨bv,0,none⟩:Addr).add j)=some u):
 IterOk Tryz.prog 67 [pP bv] valsV (dr v) M:=by
 refine⟨Go.Proofs.enters_of Tryz.func67 kr rfl,λσ β Y s0 r hr l J Jx hJ hJx hY w0 M1 E H w hM0 hj p0=>?_⟩
 refine Re 7 Tryz.func67 rfl (λa0 f0=>?_)
 replace f0:Frm 7 [(0,.func (.yield l) #[] #[]),(1,pP bv)] a0:=f0
 refine ah ?_
 refine ay ?_
 refine W_box (cs:=#[.func (.yield l) #[] #[]]) (T:=27) f0 p0 1 [1,2] (λb=>[(1,pP bv),(2,pP b)]) (λ_=>by kernel_rfl) (λby_ M2 w hM1 hc p1 a_1 f_1=>?_)
 replace f_1:Frm 7 [(1,pP bv),(2,pP by_)] a_1:=f_1
 refine ag rfl ?_
 refine az ?_
 refine ah ?_
 refine ay ?_
 refine W_alloc f_1 p1 1 [1,2,3] (.cells #[.nilFunc] 113 (0,0)) (λb=>[(1,pP bv),(2,pP by_),(3,pP b)]) (λ_=>by kernel_rfl) (λbs w p2 a_2 f_2=>?_)
 replace f_2:Frm 7 [(1,pP bv),(2,pP by_),(3,pP bs)] a_2:=f_2
 refine ag rfl ?_
 refine az ?_
 refine ah ?_
 refine ay ?_
 refine iU (L':=[(1,pP bv),(3,pP bs),(4,.func (.func 68) #[] #[pP by_,pP bs])]) (w':=w) f_2 1 [1,3,4] kr (λa_3 f_3=>?_)
 refine jF f_3 p2 0 kr kr rfl rfl (b:=bs) (j:=0) (v:=.func (.func 68) #[] #[pP by_,pP bs]) kr kr rfl kr (by exact rfl) (by simp) (by simp)
  (.obj bs (.cells #[.func (.func 68) #[] #[pP by_,pP bs]] 113 (0,0))::(E++H)) (by exact rfl) (λw p3 a_4 f_4=>?_)
 refine ag rfl ?_
 refine az ?_
 obtain⟨hM2,p4⟩:=p3.freeze
 have hself: (M2.add bs (.cells #[.func (.func 68) #[] #[pP by_,pP bs]] 113 (0,0))).cell? ⟨bs,0,none⟩=some (.func (.func 68) #[] #[pP by_,pP bs]):=by rw[lu];rfl
 generalize (M2.add bs (.cells #[.func (.func 68) #[] #[pP by_,pP bs]] 113 (0,0)))=M3 at hM2 p4 hself
 have hM3:=hM1.trans hM2
 refine ay ?_
 refine oz (v:=.func (.func 68) #[] #[pP by_,pP bs]) f_4 kr kr rfl rfl (eo (v:=.func (.func 68) #[] #[pP by_,pP bs]) rfl (ad:=⟨bs,0,none⟩) kr kr (p4.cell hself)) (λa_5 f_5=>?_)
 have hcall:=walkIns by_ bs l Y J Jx hJ hY (SizeOf.sizeOf v+1) v (Nat.lt_succ_self _) hlen s0 r hr M3 ⟨bv,0,none⟩ cs (Rep.mono (hM0.trans hM3) _ _ hrep) (λj u h=>(hM0.trans hM3).cell (hbv j u h)) (hM2.cell (hc 0 _ rfl)) hself w0 M3 E H w (Mem.le_refl _) (hJ _ _ _ _ hM3 hj) p4
 refine W_call (R:=λ_ w'=>∃M' E',M3.le M'∧Hp w0 M' (E'++H) w'∧match r with
  |.nx s'=>J s' M' E'
  |.br b=>Jx b M' E') f_5 kr kr rfl rfl kr (hcall.mono λe w' ⟨M',E',g1,g2,g3⟩=>?_) ?_
 ·cases r with
  |nx s'=>exact⟨_,g3.1,M',E',g1,g2,g3.2⟩
  |br b=>exact⟨_,g3.1,M',E',g1,g2,g3.2⟩
 rintro v_1 w_4 ⟨M4,E4,hM4,p_4,g4⟩ a_6 f_6
 refine ag rfl ?_
 refine eN f_6 rfl ?_
 cases r with
 |nx s'=>exact⟨_,rfl,M4,E4,hM3.trans hM4,p_4,g4⟩
 |br b=>exact⟨_,rfl,M4,E4,hM3.trans hM4,p_4,g4⟩
def WalkRes (v:TE0) (M:Mem) (u:Value):Prop:=∃f caps,u=.func (.func f) #[] caps.toArray∧IterOk Tryz.prog f caps valsV (dr v) M
set_option maxRecDepth 100000 in
theorem walk_ok (v:TE0) (hlen: (dr v).length≤9223372036854775806) (M:Mem) (cs:Lv) (h0:Rep M (ai v) cs):Ok Tryz.prog M 29 [.agg cs.toArray] (λM' u=>WalkRes v M' u):=by
 intro M1 hM0 w0 H w p0
 replace h0:=Rep.mono hM0 _ _ h0
 obtain⟨A_1,oF,A_2,cap_2,rfl,h_1,h_2⟩:=TE0.opn h0
 refine Re 4 Tryz.func29 rfl (λa0 f0=>?_)
 replace f0:Frm 4 [(0,.agg (aTE0 v A_1 oF A_2 cap_2))] a0:=f0
 refine ah ?_
 refine ay ?_
 refine W_box (cs:=(aTE0 v A_1 oF A_2 cap_2)) (T:=26) f0 p0 1 [1] (λb=>[(1,pP b)]) (λ_=>by kernel_rfl) (λbv M2 w hM1 hc p1 a_1 f_1=>?_)
 replace f_1:Frm 4 [(1,pP bv)] a_1:=f_1
 have hc2:=aU hc
 refine iU (L':=[(1,pP bv)]) (w':=w) f_1 1 [1] kr (λa_2 f_2=>?_)
 refine ag rfl ?_
 refine az ?_
 refine ah ?_
 refine ay ?_
 refine iU (L':=[(2,.func (.func 67) #[] #[pP bv])]) (w':=w) f_2 2 [2] kr (λa_3 f_3=>?_)
 refine ag rfl ?_
 refine az ?_
 refine wp_ret ?_
 refine am f_3 rfl (Lk 2 (.func (.func 67) #[] #[pP bv])) ?_
 refine⟨_,rfl,M2,hM1,p1,67,[pP bv],rfl,?_⟩
 exact walk_iter v hlen M2 bv _ (Rep.mono hM1 _ _ h0) hc2
def gg (n:Nat) (d0:Bs):Option Bool:=
 (jG n d0).bind λX1=>
 some ((X1))
theorem kk (n:Nat) (M:Mem) (hG:GL M) (d0:Bs) (r:Bool) (hF:gg n d0=some r):Ok Tryz.prog M 69 [S d0] (λ_ v=>v=bO r):=by
 unfold gg at hF
 intro M1 hM0 w0 H w p0
 replace hG:=GL.mono hM0 hG
 refine Re 5 Tryz.func69 rfl λa0 f0=>RR (Ye f0 1 λ_ f=>RR (Y f 1 λ_ f=>?_))
 obtain⟨X1,l1,F1⟩:=bS hF
 refine Y9 f p0 (qr n _ hG d0 X1 l1) λW1 N1 _ f=>Ye f 1 λ_ f=>wp_ret (am f rfl (Lk 2 (bO X1)) ?_)
 cases sI F1
 exact⟨_,rfl,M1,mL,N1.kr,rfl⟩
def lp (n:Nat) (d0:Bs):Option Bool:=
 (gg n d0).bind λX1=>
 some ((!X1))
theorem rl (n:Nat) (M:Mem) (hG:GL M) (d0:Bs) (r:Bool) (hF:lp n d0=some r):Ok Tryz.prog M 71 [S d0] (λ_ v=>v=bO r):=by
 unfold lp at hF
 intro M1 hM0 w0 H w p0
 replace hG:=GL.mono hM0 hG
 refine Re 6 Tryz.func71 rfl λa0 f0=>RR (Ye f0 1 λ_ f=>RR (Y f 1 λ_ f=>?_))
 obtain⟨X1,l1,F1⟩:=bS hF
 refine Y9 f p0 (kk n _ hG d0 X1 l1) λW1 N1 _ f=>Ye f 2 λ_ f=>wp_ret (am f rfl (Lk 2 (.bool !X1)) ?_)
 cases sI F1
 exact⟨_,rfl,M1,mL,N1.kr,rfl⟩
def bu (n:Nat) (d0:List Bs) (K1:Int):Option (Lp Int (Sum Int Unit)):=
    bif(decide (K1<((d0.length:Nat):Int))) then
     ((aB d0 K1).bind λX1=>
     (lp n X1).bind λX2=>
     bif X2 then
      (some (.br (.inl K1)))
     else
      aL (inR .i64 (K1+1))<|
      some (.nx (K1+1)))
    else
     some (.br (.inr ()))
def di (n:Nat) (d0:List Bs):Option Int:=
 (au (bu n d0) n (0:Int)).bind λQ1=>
 (match Q1 with
 |.inl G1=>some (G1)
 |.inr G2=>some ((-1:Int)))
theorem kl (n:Nat) (M:Mem) (hG:GL M) (A0:Oa) (cap0:Nat) (d0:List Bs) (h0:Sli M 1 Dat.str A0 cap0 d0) (r:Int) (hF:di n d0=some r):Ok Tryz.prog M 113 [sL A0 d0 cap0,.func (.func 71) #[] #[]] (λ_ v=>v=iL r):=by
 unfold di at hF
 intro M1 hM0 w0 H w p0
 replace hG:=GL.mono hM0 hG
 replace h0:=h0.mono hM0
 refine Re 19 Tryz.func113 rfl λa0 f0=>RR (Ye f0 1 λ_ f=>ah (RR (Ye f 3 λ_ f=>wp_block ?_)))
 obtain⟨Q1,ce,F1⟩:=bS hF
 refine wp_mono (Q:=λe a w=>(e=.ret∧(∃G1,Q1=.inl G1∧∃V2,M1.le V2∧Frm 19 [(4,iL G1)] a∧Hp w0 V2 (H) w))∨(e=.exit 0∧(∃G2,Q1=.inr G2∧∃V3,M1.le V3∧Frm 19 [] a∧Hp w0 V3 (H) w))) (aZ (σ:=Int) (λx=>match x with|(I1,K1)=>(((8,iL K1)::kpL [0,1,7] f.fr),(H),λMM=>au (bu n d0) I1 K1=some Q1)) (n,(0:Int)) (f.kp) p0.kr ce ?_) ?_
 ·rintro⟨I1,K1⟩ V1 _ W1 J1 gL f N1
  have ci:=gL
  obtain⟨I2,lT,rfl,bg,T1⟩:=aK ci
  unfold bu at bg
  refine RR (Ye f 1 λ_ f=>ah (RcF f bg (λB1 F2=>?_) λB1 F8=>?_))
  ·refine St (ah (wp_block (RR (Ye f 2 λ_ f=>RR (Y f 3 λ_ f=>?_)))))
   obtain⟨X1,l1,F3⟩:=bS F2
   obtain⟨C1,dW,jC,D1,R1⟩:=N1.at_ h0 l1
   obtain rfl:dW=[S X1]:=D1
   refine Z f (XI jC l1) λ_ f=>Y7 f N1 R1 0 rfl λ_ f=>?_
   obtain⟨X2,l2,F4⟩:=bS F3
   refine Y9 f N1 (rl n _ hG.mo X1 X2 l2) λW2 N2 _ f=>eT (RcF f F4 (λB2 F5=>?_) λB2 F6=>?_)
   ·refine RR (Ye f 2 λ_ f=>wp_ret (eu (bl (bl ?_))))
    cases sI F5
    exact .inl ⟨rfl,_,(sI T1).symm,_,J1,f.kp,N2.kr⟩
   refine wp_skip (ec (az (ay ?_)))
   obtain⟨O1,F7⟩:=nS F6
   refine Y f 1 λ_ f=>?_
   have f:=f.st 18 (iW O1)
   refine Ye f 1 λ_ f=>?_
   cases sI F7
   exact⟨⟨_,_⟩,Nat.lt_succ_self _,_,J1,T1,f.kp,N2.kr⟩
  refine wp_exit (dJ (dJ ?_))
  cases sI F8
  exact .inr ⟨rfl,_,(sI T1).symm,_,J1,f.kp,N1.kr⟩
 rintro _ _ W5 (⟨rfl,G1,rfl,V2,J2,f,N3⟩|⟨rfl,G2,rfl,V3,J3,f,N4⟩)
 ·refine eu (bl (am f rfl (Lk 4 (iL G1)) ?_))
  cases sI F1
  exact⟨_,rfl,_,J2,N3.kr,rfl⟩
 refine jV (az (RR (Ye f 1 λ_ f=>wp_ret (am f rfl (Lk 4 (iL (-1))) ?_))))
 cases sI F1
 exact⟨_,rfl,_,J3,N4.kr,rfl⟩
def bR (n:Nat) (d0:List Bs):Option Bool:=
 (di n d0).bind λX1=>
 some ((decide ((0:Int)≤X1)))
theorem jK (n:Nat) (M:Mem) (hG:GL M) (A0:Oa) (cap0:Nat) (d0:List Bs) (h0:Sli M 1 Dat.str A0 cap0 d0) (r:Bool) (hF:bR n d0=some r):Ok Tryz.prog M 70 [sL A0 d0 cap0,.func (.func 71) #[] #[]] (λ_ v=>v=bO r):=by
 unfold bR at hF
 intro M1 hM0 w0 H w p0
 replace hG:=GL.mono hM0 hG
 replace h0:=h0.mono hM0
 refine Re 9 Tryz.func70 rfl λa0 f0=>RR (Ye f0 1 λ_ f=>RR (Y f 2 λ_ f=>?_))
 obtain⟨X1,l1,F1⟩:=bS hF
 refine Y9 f p0 (kl n _ hG A0 cap0 d0 h0 X1 l1) λW1 N1 _ f=>Ye f 2 λ_ f=>wp_ret (am f rfl (Lk 4 (bO (decide ((0:Int)≤X1)))) ?_)
 cases sI F1
 exact⟨_,rfl,M1,mL,N1.kr,rfl⟩
def gk (n:Nat) (d0:TE0) (K1:Int× (List (Bs×Bool))):Option (Lp (Int× (List (Bs×Bool))) (Sum (List (Bs×Bool)) (List (Bs×Bool)))):=
    bif(decide (K1.1<((d0.af.length:Nat):Int))) then
     ((aB d0.af K1.1).bind λX3=>
     bif((ew K1.2 X3).getD false) then
      (some (.br (.inl K1.2)))
     else
      aL (inR .i64 (K1.1+1))<|
      some (.nx (K1.1+1,bJ K1.2 X3 (true))))
    else
     some (.br (.inr K1.2))
def lN (n:Nat) (d0:TE0):Option Int:=
 ((bif(decide (d0.ab=0)) then
  (some (.nx ((d0.an),d0.ak,d0.aa,d0.ac,d0.af)))
   else
    bif(decide (d0.ab=1)) then
     (some (.nx ((false),d0.ak,d0.aa,d0.ac,d0.af)))
    else
     bif(decide (d0.ab=2)) then
      (some (.nx ((d0.an),(0:Int),d0.aa,d0.ac,d0.af)))
     else
      bif(decide (d0.ab=3)) then
       (some (.nx ((d0.an),d0.ak,([]:Bs),d0.ac,d0.af)))
      else
       bif(decide (d0.ab=4)) then
        (some (.nx ((d0.an),d0.ak,d0.aa,([]:List TE0),d0.af)))
       else
        bif(decide (d0.ab=5)) then
         (bif(!(decide (((d0.af.length:Nat):Int)=((d0.ac.length:Nat):Int)))) then
          (((some ((2:Int)):Option Int)).map Lp.br)
         else
          some (.nx ((d0.an),d0.ak,d0.aa,([]:List TE0),([]:List Bs))))
        else
         ((some ((2:Int)):Option Int)).map Lp.br:Option (Lp (Bool×Int×Bs×List TE0×List Bs) Int))).bind λj=>joinF j λG1=>
 ((((bif G1.1 then
  (some ((true)))
     else
      bif(!(decide (G1.2.1=0))) then
       (some ((true)))
      else
       bif(!(decide (G1.2.2.1=[]))) then
        (some ((true)))
       else
        aL (inR .i64 (((G1.2.2.2.1.length:Nat):Int)+ ((G1.2.2.2.2.length:Nat):Int)))<|
        some ((decide ((0:Int)<(((G1.2.2.2.1.length:Nat):Int)+ ((G1.2.2.2.2.length:Nat):Int))))):Option Bool)).bind λG2=>
   bif G2 then
    (((some ((2:Int)):Option Int)).map Lp.br)
   else
    ((bif(decide (d0.ak<(-9007199254740992))) then
     (some ((true)))
      else
       some ((decide ((9007199254740992:Int)<d0.ak))):Option Bool)).bind λG3=>
    bif G3 then
     (((some ((20:Int)):Option Int)).map Lp.br)
    else
     (gg n d0.aa).bind λX1=>
     bif !X1 then
      (((some ((10:Int)):Option Int)).map Lp.br)
     else
      (bR n d0.af).bind λX2=>
      bif X2 then
       (((some ((10:Int)):Option Int)).map Lp.br)
      else
       some (.nx ()):Option (Lp Unit Int))).bind λj=>joinF j λG4=>
 (au (gk n d0) n ((0:Int),([]:List (Bs×Bool)))).bind λQ2=>
 (match Q2 with
 |.inl G5=>some ((41:Int))
 |.inr G6=>some ((0:Int)))
set_option maxRecDepth 20000 in
theorem tb (n:Nat) (M:Mem) (hG:GL M) (ad0:Addr) (c0:Lv) (d0:TE0) (h0:Rep M (ai d0) c0) (q0: ∀j v,c0[j]? =some v→M.cell? (ad0.add j)=some v) (r:Int) (hF:lN n d0=some r):Ok Tryz.prog M 30 [Pa ad0] (λ_ v=>v=iL r):=by
 unfold lN at hF
 intro M1 hM0 w0 H w p0
 replace hG:=GL.mono hM0 hG
 replace h0:=Rep.mono hM0 _ _ h0
 replace q0:=λj v h=>hM0.cell (q0 j v h)
 obtain⟨Z1,P1,Z2,P2,rfl,B1,B2⟩:=TE0.opn h0
 refine Re 109 Tryz.func30 rfl λa0 f0=>RR (Ye f0 1 λ_ f=>RR (Y f 2 λ_ f=>Z f (XK p0 q0 0) λ_ f=>Y4 f p0 (.cells #[iB 0,bO false,iL 0,S [],Sn,Sn] 26 (0,0)) λQ1 W1 N1 _ f=>Wu f N1 0 0 (lTE0 d0 Z1 P1 Z2 P2) λW2 N2 _ f=>eT (ah (RR (Y f 3 λ_ f=>Y7 f N2 q0 0 rfl λ_ f=>eT ?_)))))
 obtain⟨eF,cL,F1⟩:=bS hF
 refine aW (λa_33 W10=>∃G1,eF=.nx G1∧∃V1,M1.le V1∧∃Z3 P3 Z4 P4,Sli V1 6 ai Z3 P3 G1.t3.1∧Sli V1 1 Dat.str Z4 P4 G1.t4∧Frm 109 (kpL [0,3] f.fr) a_33∧Hp w0 V1 ((oC Q1 #[iB d0.ab,bO G1.1,iL G1.2.1,S G1.2.2.1,sL Z3 G1.t3.1 P3,sL Z4 G1.t4 P4] 26)::H) W10) ?_ ?_
 ·refine wp_block (RR (Ye f 2 λ_ f=>RcF f cL (λB3 F2=>?_) λB3 F3=>?_))
  ·refine wp_skip (ec (az ?_))
   exact⟨_,(sI F2).symm,M1,mL,Z1,P1,Z2,P2,B1,B2,f.kp,N2.kr⟩
  refine RR (Ye f 2 λ_ f=>RcF f F3 (λB4 F4=>?_) λB4 F5=>?_)
  ·refine ay (Y f 1 λ_ f=>Wt f N2 0 1 (bO false) λW3 N3 _ f=>ag rfl (ec (az ?_)))
   exact⟨_,(sI F4).symm,M1,mL,Z1,P1,Z2,P2,B1,B2,f.kp,N3.kr⟩
  refine RR (Ye f 2 λ_ f=>RcF f F5 (λB5 F6=>?_) λB5 F7=>?_)
  ·refine ay (Y f 1 λ_ f=>Wt f N2 0 2 (iL 0) λW4 N4 _ f=>ag rfl (ec (az ?_)))
   exact⟨_,(sI F6).symm,M1,mL,Z1,P1,Z2,P2,B1,B2,f.kp,N4.kr⟩
  refine RR (Ye f 2 λ_ f=>RcF f F7 (λB6 F8=>?_) λB6 F9=>?_)
  ·refine ay (Y f 1 λ_ f=>Wt f N2 0 3 (S []) λW5 N5 _ f=>ag rfl (ec (az ?_)))
   exact⟨_,(sI F8).symm,M1,mL,Z1,P1,Z2,P2,B1,B2,f.kp,N5.kr⟩
  refine RR (Ye f 2 λ_ f=>RcF f F9 (λB7 F10=>?_) λB7 F11=>?_)
  ·refine ay (Y f 1 λ_ f=>Wt f N2 0 4 Sn λW6 N6 _ f=>ag rfl (ec (az ?_)))
   exact⟨_,(sI F10).symm,M1,mL,none,0,Z2,P2,Sli.nil,B2,f.kp,N6.kr⟩
  refine RR (Ye f 2 λ_ f=>RcF f F11 (λB8 F12=>?_) λB8 F16=>?_)
  ·refine ah (ah (iG N2 kr kr (Y2 default f 3 λ_ f=>gx f q0 5 rfl kr kr λ_ f=>Y2 default f 4 λ_ f=>gx f q0 4 rfl kr kr λ_ f=>Y2 default f 2 λ_ f=>iS rfl ?_)))
   intro W7 N7
   refine az (RcF f F12 (λB9 F13=>?_) λB9 F15=>?_)
   ·refine RR (Ye f 1 λ_ f=>wp_ret (bl (eu ?_)))
    have F14:=bw F13 F1
    refine bl (bl (am f rfl (Lk 2 (iL 2)) ?_))
    cases sI F14
    exact⟨_,rfl,M1,mL,(N7.dropN 1).kr,rfl⟩
   refine St (ay (Y f 1 λ_ f=>Wt f N7 0 4 Sn λW8 N8 _ f=>Y f 1 λ_ f=>Wt f N8 0 5 Sn λW9 N9 _ f=>ag rfl (ec (az ?_))))
   exact⟨_,(sI F15).symm,M1,mL,none,0,none,0,Sli.nil,Sli.nil,f.kp,N9.kr⟩
  refine RR (Ye f 1 λ_ f=>wp_ret (eu ?_))
  have F17:=bw F16 F1
  refine bl (bl (am f rfl (Lk 2 (iL 2)) ?_))
  cases sI F17
  exact⟨_,rfl,M1,mL,(N2.dropN 1).kr,rfl⟩
 rintro a_33 W10 ⟨G1,rfl,V1,J1,Z3,P3,Z4,P4,B10,B11,f,N10⟩
 refine az (RR (pr S Value.bool f N10 kr kr rfl rfl rfl λzz1 W11 N11 _ f=>Ye f 1 λ_ f=>ah ?_))
 obtain⟨lb,iJ,F18⟩:=bS F1
 refine aW (λa_78 W16=>∃G4,lb=.nx G4∧∃V4,V1.le V4∧Frm 109 (kpL [0,4] f.fr) a_78∧Hp w0 V4 (N11.en) W16) ?_ ?_
 ·refine wp_block (ah ?_)
  obtain⟨ns,la,F19⟩:=bS iJ
  refine aW (λa_56 W12=>∃G2,ns=G2∧∃V2,V1.le V2∧Frm 109 ((44,bO G2)::kpL [0,4] f.fr) a_56∧Hp w0 V2 (N11.en) W12) ?_ ?_
  ·refine ay (Y f 1 λ_ f=>Z f (XO N11 1) λ_ f=>Y f 1 λ_ f=>?_)
   rcases cE la with⟨B12,F20⟩|⟨B12,F21⟩
   ·have f:=f.st 47 (cB B12)
    refine Ye f 20 λ_ f=>?_
    exact⟨_,(sI F20).symm,_,mL,f.kp,N11.kr⟩
   have f:=f.st 47 (cB B12)
   refine Y f 1 λ_ f=>Z f (XO N11 1) λ_ f=>Y f 3 λ_ f=>?_
   rcases cE F21 with⟨B13,F22⟩|⟨B13,F23⟩
   ·have f:=f.st 52 (cB B13)
    refine Ye f 15 λ_ f=>?_
    exact⟨_,(sI F22).symm,_,mL,f.kp,N11.kr⟩
   have f:=f.st 52 (cB B13)
   refine Y f 1 λ_ f=>Z f (XO N11 1) λ_ f=>Z f (ep rfl (l:=G1.2.2.1) (m:=[]) kr kr) λ_ f=>Y f 2 λ_ f=>?_
   rcases cE F23 with⟨B14,F24⟩|⟨B14,F25⟩
   ·have f:=f.st 57 (cB B14)
    refine Ye f 10 λ_ f=>?_
    exact⟨_,(sI F24).symm,_,mL,f.kp,N11.kr⟩
   have f:=f.st 57 (cB B14)
   refine Y f 1 λ_ f=>Z f (XO N11 1) λ_ f=>Y f 2 λ_ f=>Z f (XO N11 1) λ_ f=>Y f 1 λ_ f=>?_
   obtain⟨O1,F26⟩:=nS F25
   refine Y f 1 λ_ f=>?_
   have f:=f.st 64 (iW O1)
   refine Ye f 3 λ_ f=>?_
   exact⟨_,(sI F26).symm,_,mL,f.kp,N11.kr⟩
  rintro a_56 W12 ⟨G2,hZ,V2,J2,f,N12⟩
  dsimp only[Hp.en] at N12
  subst ns
  refine az (RcF f F19 (λB15 F27=>?_) λB15 F29=>?_)
  ·refine RR (Ye f 1 λ_ f=>wp_ret (eu ?_))
   have F28:=bw F27 F18
   refine bl (bl (am f rfl (Lk 2 (iL 2)) ?_))
   cases sI F28
   exact⟨_,rfl,_,mL,(N12.dropN 2).kr,rfl⟩
  refine ah ?_
  obtain⟨qh,mK,F30⟩:=bS F29
  refine aW (λa_65 W13=>∃G3,qh=G3∧∃V3,V2.le V3∧Frm 109 ((67,bO G3)::kpL [0,4] f.fr) a_65∧Hp w0 V3 (N12.en) W13) ?_ ?_
  ·refine ay (Y f 3 λ_ f=>Y7 f N12 (fu q0) 2 rfl λ_ f=>Y f 2 λ_ f=>?_)
   rcases cE mK with⟨B16,F31⟩|⟨B16,F32⟩
   ·have f:=f.st 73 (cB B16)
    refine Ye f 7 λ_ f=>?_
    exact⟨_,(sI F31).symm,_,mL,f.kp,N12.kr⟩
   have f:=f.st 73 (cB B16)
   refine Y f 3 λ_ f=>Y7 f N12 (fu q0) 2 rfl λ_ f=>Ye f 3 λ_ f=>?_
   exact⟨_,(sI F32).symm,_,mL,f.kp,N12.kr⟩
  rintro a_65 W13 ⟨G3,qt,V3,J3,f,N13⟩
  dsimp only[Hp.en] at N13
  subst qh
  refine az (RcF f F30 (λB17 F33=>?_) λB17 F35=>?_)
  ·refine RR (Ye f 1 λ_ f=>wp_ret (eu ?_))
   have F34:=bw F33 F18
   refine bl (bl (am f rfl (Lk 2 (iL 20)) ?_))
   cases sI F34
   exact⟨_,rfl,_,mL,(N13.dropN 2).kr,rfl⟩
  refine RR (Y f 3 λ_ f=>Y7 f N13 (fu q0) 3 rfl λ_ f=>?_)
  obtain⟨X1,l1,F36⟩:=bS F35
  refine Y9 f N13 (kk n _ hG.mo d0.aa X1 l1) λW14 N14 _ f=>Y f 2 λ_ f=>?_
  rcases cE F36 with⟨B18,F37⟩|⟨B18,F39⟩
  ·have f:=f.st 87 (cB B18)
   refine Ye f 7 λ_ f=>iT f kr kr (RR (Ye f 1 λ_ f=>wp_ret (eu ?_)))
   have F38:=bw F37 F18
   refine bl (bl (am f rfl (Lk 2 (iL 10)) ?_))
   cases sI F38
   exact⟨_,rfl,_,mL,(N14.dropN 2).kr,rfl⟩
  have f:=f.st 87 (cB B18)
  refine Y f 3 λ_ f=>Y7 f N14 (fu q0) 5 rfl λ_ f=>?_
  obtain⟨X2,l2,F40⟩:=bS F39
  refine Y9 f N14 (jK n _ hG.mo Z2 P2 d0.af B2.mo X2 l2) λW15 N15 _ f=>Ye f 2 λ_ f=>RcF f F40 (λB19 F41=>?_) λB19 F43=>?_
  ·refine RR (Ye f 1 λ_ f=>wp_ret (eu ?_))
   have F42:=bw F41 F18
   refine bl (bl (am f rfl (Lk 2 (iL 10)) ?_))
   cases sI F42
   exact⟨_,rfl,_,mL,(N15.dropN 2).kr,rfl⟩
  refine wp_skip (ec (az ?_))
  exact⟨_,(sI F43).symm,_,mL,f.kp,N15.kr⟩
 rintro a_78 W16 ⟨G4,rfl,V4,J4,f,N16⟩
 dsimp only[Hp.en] at N16
 refine az (ah (RR (Y f 3 λ_ f=>Y7 f N16 (fu q0) 5 rfl λ_ f=>Ye f 2 λ_ f=>wp_block ?_)))
 obtain⟨Q2,ce,F44⟩:=bS F18
 refine wp_mono (Q:=λe a w=>(e=.ret∧(∃G5,Q2=.inl G5∧∃V6,V4.le V6∧Frm 109 [(2,iL 41)] a∧Hp w0 V6 ((Ent.obj zz1 (sR S Value.bool G5))::N16.en.drop 1) w))∨(e=.exit 2∧(∃G6,Q2=.inr G6∧∃V7,V4.le V7∧Frm 109 [] a∧Hp w0 V7 ((Ent.obj zz1 (sR S Value.bool G6))::N16.en.drop 1) w))) (aZ (σ:=(Int× (List (Bs×Bool)))) (λx=>match x with|(I1,K1)=>(((99,iL K1.1)::kpL [4,97,98] f.fr),((Ent.obj zz1 (sR S Value.bool K1.2))::N16.en.drop 1),λMM=>au (gk n d0) I1 K1=some Q2)) (n,((0:Int),([]:List (Bs×Bool)))) (f.kp) N16.kr ce ?_) ?_
 ·rintro⟨I1,K1⟩ V5 _ W17 J5 gL f N17
  have ci:=gL
  dsimp only[Hp.en] at N17
  obtain⟨I2,lT,rfl,bg,T1⟩:=aK ci
  unfold gk at bg
  refine RR (Ye f 1 λ_ f=>ah (RcF f bg (λB20 F45=>?_) λB20 F50=>?_))
  ·refine St (ah (wp_block (RR ?_)))
   obtain⟨X3,l3,F46⟩:=bS F45
   obtain⟨C1,dW,jC,D1,R1⟩:=N17.at_ B2 l3
   obtain rfl:dW=[S X3]:=D1
   refine Z f (XI jC l3) λ_ f=>Y7 f N17 R1 0 rfl λ_ f=>Ye f 1 λ_ f=>ah (RR (Y f 2 λ_ f=>Z (v:=bO ((ew K1.2 X3).getD false)) f (oe (ek:=S) (ev:=Value.bool) (m:=K1.2) (k:=X3) (z:=false) (kt:=9) (et:=4) rfl kr kr kr (strKey kr) kr (N17.ownObj 0 rfl)) λ_ f=>eT (RcF f F46 (λB21 F47=>?_) λB21 F48=>?_)))
   ·refine RR (Ye f 1 λ_ f=>wp_ret (bl (eu (bl (bl ?_)))))
    cases sI F47
    exact .inl ⟨rfl,_,(sI T1).symm,_,J5,f.kp,N17.kr⟩
   refine St (ay (Y f 2 λ_ f=>gC (ek:=S) (ev:=Value.bool) (m:=K1.2) (k:=X3) (v:=(true)) (kt:=9) (et:=4) f N17 kr kr rfl (.inl rfl) kr kr kr kr (strKey kr) λW18 N18 _ f=>ag rfl (ec (az (ay ?_)))))
   obtain⟨O2,F49⟩:=nS F48
   refine Y f 1 λ_ f=>?_
   have f:=f.st 108 (iW O2)
   refine Ye f 1 λ_ f=>?_
   cases sI F49
   exact⟨⟨_,_⟩,Nat.lt_succ_self _,_,J5,T1,f.kp,N18.kr⟩
  refine wp_exit (dJ (dJ ?_))
  cases sI F50
  exact .inr ⟨rfl,_,(sI T1).symm,_,J5,f.kp,N17.kr⟩
 rintro _ _ W21 (⟨rfl,G5,rfl,V6,J6,f,N19⟩|⟨rfl,G6,rfl,V7,J7,f,N20⟩)
 ·refine eu (bl (am f rfl (Lk 2 (iL 41)) ?_))
  cases sI F44
  exact⟨_,rfl,_,mL,(N19.dropN 2).kr,rfl⟩
 refine jV (az (RR (Ye f 1 λ_ f=>wp_ret (am f rfl (Lk 2 (iL 0)) ?_))))
 cases sI F44
 exact⟨_,rfl,_,mL,(N20.dropN 2).kr,rfl⟩
def iD (n:Nat) (K1:Int) (X2:TE0):Option (Lp Int (Int×Int)):=
    (lN n X2).bind λX3=>
    bif(!(decide (X3=0))) then
     (some (.br (K1,X3)))
    else
     aL (inR .i64 (K1+1))<|
     some (.nx (K1+1))
def kI (n:Nat) (d0:TE0):Option Int:=
 (pk n d0 (24:Int)).bind λX1=>
 bif(decide ((24:Int)<X1)) then
  (some ((30:Int)))
 else
  aL ((dr d0).length≤9223372036854775806)<|
  (mu (iD n) (dr d0) (0:Int)).bind λeF=>
  (match eF with
  |.nx K2=>bif(decide ((4096:Int)<K2)) then
   (some ((3:Int)))
   else
    some ((0:Int))
  |.br Q5=>some (Q5.2))
set_option maxRecDepth 20000 in
theorem oL (n:Nat) (M:Mem) (hG:GL M) (c0:Lv) (d0:TE0) (h0:Rep M (ai d0) c0) (r:Int) (hF:kI n d0=some r):Ok Tryz.prog M 16 [.agg c0.toArray] (λ_ v=>v=iL r):=by
 unfold kI at hF
 intro M1 hM0 w0 H w p0
 replace hG:=GL.mono hM0 hG
 replace h0:=Rep.mono hM0 _ _ h0
 obtain⟨Z1,P1,Z2,P2,rfl,B1,B2⟩:=TE0.opn h0
 refine R_enterM 19 Tryz.func16 rfl rfl (by simp) λa0 f0=>RR (Y5 (cs:=(aTE0 d0 Z1 P1 Z2 P2)) (T:=26) f0 p0 λQ1 V1 W1 J1 R1 N1 _ f=>?_)
 have R2:=aU R1
 refine Y4 f N1 (.cells #[iL 0] 32 (0,0)) λQ2 W2 N2 _ f=>eT (ah (RR ?_))
 obtain⟨X1,l1,F1⟩:=bS hF
 refine Y9 f N2 (tc n _ (⟨Q1,0,none⟩) (lTE0 d0 Z1 P1 Z2 P2) d0 h0.mo (bF (R2) 0 rfl) (24:Int) X1 l1) λW3 N3 _ f=>Ye f 1 λ_ f=>RcF f F1 (λB3 F2=>?_) λB3 F3=>?_
 ·refine RR (Wt f N3 0 0 (iL 30) λW4 N4 _ f=>Er (bl (E_M0 f (V_rv1 rfl (Rv.o1 (iL 30) f N4 0 0) ?_))))
  cases sI F2
  exact⟨_,rfl,_,J1,(N4.dropN 1).kr,rfl⟩
 refine St (RR (Y4 f N3 (.cells #[iL 0] 3 (0,0)) λQ3 W5 N5 _ f=>Wt f N5 0 0 (iL 0) λW6 N6 _ f=>eT (ah (RR (Z f (XK N6 R2 0) λ_ f=>?_)))))
 obtain⟨O1,F4⟩:=nS F3
 refine Y8 f N6 (walk_ok d0 O1 _ (lTE0 d0 Z1 P1 Z2 P2) h0.mo) λ_ V2 W7 J2 N7 ef a_9 f=>?_
 obtain⟨fv_1,cp_1,rfl,hit_1⟩:=ef
 refine eT (wp_block ?_)
 have f:Frm 19 [(2,pP Q2),(3,pP Q3),(9,.func (.func fv_1) #[] cp_1.toArray)] a_9:=f.kp
 obtain⟨eF,ce,F5⟩:=bS F4
 refine R_range (σ:=Int) (β:=Int×Int) (vals:=valsV) (Y:=(iD n)) (E0:=[oC Q3 #[iL 0] 3,oC Q2 #[iL 0] 32]) (H:=H) (w0:=w0) (M:=V2) (f:=fv_1) (caps:=cp_1) f N7.kr kr kr kr hit_1.1 (λ (K1:Int) M' E1=>E1=[oC Q3 #[iL K1] 3,oC Q2 #[iL 0] 32]) (λ (G1:Int×Int) M' E1=>E1=[oC Q3 #[iL G1.1] 3,oC Q2 #[iL G1.2] 32]) (λ (_:Int×Int)=>Jmp.ret) (0:Int) eF rfl (λs_ M_ M2_ E_ hM h=>h) (λs_ M_ M2_ E_ hM h=>h) (λM_ x_ vs_ h=>by obtain⟨c_,h,_⟩:=h;exact⟨_,h⟩) (hit_1.2 _ _ _ _ _ ce) ?_ ?_ ?_
 ·rintro K1 X2 lT bg l_1 w0 V3 mG H W8 _ v_1 J3 rfl ⟨cc_1,H1,D1⟩ N8 f
  obtain rfl:v_1=.agg cc_1.toArray:=by simpa using H1
  unfold iD at bg
  obtain⟨Z3,P3,Z4,P4,rfl,B4,B5⟩:=TE0.opn D1
  refine rD (gZ F_out) kr (Y4 f N8 (.cells #[iB 0,bO false,iL 0,S [],Sn,Sn] 26 (0,0)) λQ4 W9 N9 _ f=>Wu f N9 0 0 (lTE0 X2 Z3 P3 Z4 P4) λW10 N10 _ f=>eT (⟨V3,[Ent.obj Q4 (.cells (aTE0 X2 Z3 P3 Z4 P4) 26 (0,0)),oC Q3 #[iL K1] 3,oC Q2 #[iL 0] 32],mL,N10,λH W11 N11=>?_⟩))
  refine RI_block (RI_seq (RI_seq (rD (gZ (gZ (ol (RB_out)))) kr ?_)))
  obtain⟨V4,J4,N12,R3⟩:=N11.fzOwn
  obtain⟨X3,l2,F6⟩:=bS bg
  refine Y9 f N12 (tb n _ hG.mo (⟨Q4,0,none⟩) (lTE0 X2 Z3 P3 Z4 P4) X2 D1.mo (bF (R3) 0 rfl) X3 l2) λW12 N13 _ f=>Ye f 1 λ_ f=>RI_seq (rD (gZ (gZ (ol (RB_out)))) kr (Ye f 2 λ_ f=>RI_cond f (b:= !(decide (X3=0))) kr kr (λB6=>?_) λB6=>?_))
  ·have F7:=cnd_t B6 F6
   refine RI_seq (rD (gZ (gZ (ol (RB_out)))) kr (Y f 1 λ_ f=>Wt f N13 1 0 (iL X3) λW13 N14 _ f=>eT (RI_ret (bl (eu ?_)))))
   cases sI F7
   exact RB_x rfl ⟨V4,[oC Q3 #[iL K1] 3,oC Q2 #[iL X3] 32],J4,N14.kr,rfl⟩
  have F8:=cnd_f B6 F6
  refine RI_skip (az (rD (ol (RB_out)) kr (Z f (XO N13 0) λ_ f=>?_)))
  obtain⟨O2,F9⟩:=nS F8
  refine Y f 1 λ_ f=>?_
  have f:=f.st 16 (iW O2)
  refine Wt f N13 0 0 (iL (K1+1)) λW14 N15 _ f=>ag rfl (ec ?_)
  cases sI F9
  exact RB_n ⟨V4,[oC Q3 #[iL (K1+1)] 3,oC Q2 #[iL 0] 32],J4,N15.kr,rfl⟩
 ·rintro K2 rfl l_2 D_1 rr_1 V5 rB W15 _ J5 rfl N16 f
  replace N16:Hp w0 V5 ((Ent.obj D_1 (.deferred (some [])))::(oC Q3 #[iL K2] 3)::(oC Q2 #[iL 0] 32)::H) W15:=N16.drop
  replace F5: (_:Option _)=some _:=F5
  refine ec (az (ah (RR (Z f (eo (v:=iL K2) rfl (ad:=⟨Q3,0,none⟩) kr kr (N16.ownCell 1 rfl 0)) λ_ f=>Ye f 1 λ_ f=>RcF f F5 (λB7 F10=>?_) λB7 F11=>?_))))
  ·refine RR (jF f N16 2 kr kr rfl rfl (b:=Q2) (j:=0) (v:=iL 3) kr kr rfl kr (by exact rfl) (by simp) (by simp) ((Ent.obj D_1 (.deferred (some [])))::(oC Q3 #[iL K2] 3)::(oC Q2 #[iL 3] 32)::H) rfl λW16 N17 _ f=>Er (bl (E_M1 f N17 λW17 N18=>V_rv1 rfl (Rv.cell1 (v:=iL 3) (ad:=⟨Q2,0,none⟩) f kr kr (N18.ownCell 1 rfl 0)) ?_)))
   cases sI F10
   exact⟨_,rfl,_,mL,(N18.dropN 2),rfl⟩
  refine St (RR (jF f N16 2 kr kr rfl rfl (b:=Q2) (j:=0) (v:=iL 0) kr kr rfl kr (by exact rfl) (by simp) (by simp) ((Ent.obj D_1 (.deferred (some [])))::(oC Q3 #[iL K2] 3)::(oC Q2 #[iL 0] 32)::H) rfl λW18 N19 _ f=>Er (E_M1 f N19 λW19 N20=>V_rv1 rfl (Rv.cell1 (v:=iL 0) (ad:=⟨Q2,0,none⟩) f kr kr (N20.ownCell 1 rfl 0)) ?_)))
  cases sI F11
  exact⟨_,rfl,_,mL,(N20.dropN 2),rfl⟩
 rintro Q5 rfl l_3 D_2 rr_2 V6 E_3 W20 _ J6 l3 N21 f
 obtain rfl:=l3
 replace N21:Hp w0 V6 ((Ent.obj D_2 (.deferred (some [])))::(oC Q3 #[iL Q5.1] 3)::(oC Q2 #[iL Q5.2] 32)::H) W20:=N21.drop
 refine eu (bl (E_M1 f N21 λW21 N22=>V_rv1 rfl (Rv.cell1 (v:=iL Q5.2) (ad:=⟨Q2,0,none⟩) f kr kr (N22.ownCell 1 rfl 0)) ?_))
 cases sI F5
 exact⟨_,rfl,_,mL,(N22.dropN 2),rfl⟩
end Go.Proofs.YtkopljikappieaaGreatDoor
end
