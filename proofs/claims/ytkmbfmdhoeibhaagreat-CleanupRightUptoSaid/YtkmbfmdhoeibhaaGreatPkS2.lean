/-
  Texts of this claim, packed (what nothing names is left out): VkG, VkH, VkI, VkK, VkP, VkS, Ck1, Ck2, Ck3, Ck4, VkR, Ck5, Ck6, VkL, VkM, Ck7, Ck8, Ck9, TyC. Own work, partly printed by own programs. No condition.
-/
import Derived.Test.YtkmbfmdhoeibhaaGreatPkS1
import Derived.Laws.StructEq
import Derived.Lib.SlicesCompact
import Derived.Recover
import Derived.WideKeyRuns
set_option linter.unusedVariables false
set_option linter.unusedSimpArgs false
set_option maxHeartbeats 2000000
section
namespace Go.Vc
open Go Go.RowKit
variable {dd:List Deferred}
def RepMap {κ δ:Type} (M:Mem) (emb:δ→Dat):List (κ×δ)→List (κ×Value)→Prop|[],m=>m=[]|p::r,m=>∃cs m',m=(p.1,Value.agg cs.toArray)::m'∧Rep M (emb p.2) cs∧RepMap M emb r m'
section
variable {κ δ:Type} {M M':Mem} {emb:δ→Dat}
theorem RepMap.mono (h:M.le M'): ∀ {d:List (κ×δ)} {m:List (κ×Value)},RepMap M emb d m→RepMap M' emb d m
 |[],_,hr=>hr
 |p::r,m,⟨cs,m',h1,h2,h3⟩=>⟨cs,m',h1,Rep.mono h _ _ h2,RepMap.mono h h3⟩
theorem RepMap.nil:RepMap M emb ([]:List (κ×δ)) []:=rfl
variable [DecidableEq κ]
end
section
variable {κ:Type} [DecidableEq κ] {P:Program} {ek:κ→Value} {w:World}
end
section
variable {α:Type}
end
section
variable {π σ β:Type}
variable {E:σ→Option (Lp σ β)} {Y:π→σ→Option (Lp σ β)} {m:List π} {seen:Array Nat} {s:σ} {b:β}
end
section
variable {κ V:Type} {ek:κ→Value} {ev:V→Value} {P:Program} {ops:Array Oper} {n:Nat} {Q:Exit→Act→World→Prop} {L:Fr} {a:Act} {w0 w:World} {M:Mem} {H:List Ent}
def KMapAt (M:Mem) (o:Option Nat) (ek:κ→Value) (ev:V→Value) (m:List (κ×V)):Prop:=(∃b,o=some b∧M b=some (kl ek ev m))∨(o=none∧m=[])
theorem KMapAt.mono {M M':Mem} (h:M.le M') {o:Option Nat} {m:List (κ×V)}:KMapAt M o ek ev m→KMapAt M' o ek ev m
 |.inl ⟨b,h1,h2⟩=>.inl ⟨b,h1,h _ _ h2⟩
 |.inr h1=>.inr h1
end
section
variable {P:Program} {w:World} {ρ:Operand→Value} {o:Oper}
theorem X_slice3 {t e sz:Nat} {x hi mx:Operand} {A:Oa} {len cap:Nat} {k k':IntKind} {b:Int} (ho:o.op=.slice t x none (some hi) (some mx)) (hx:ρ x=.slice A len cap) (hhi:ρ hi=.int k b) (hmx:ρ mx=.int k' b) (ht:P.underlying t=some (.slice e))
 (hs:szIs P e sz=true) (h0:0≤b) (h2:b≤cap): (execOp ρ o).run P w=.ok (.value (.slice (cutA A sz 0 b.toNat) b.toNat b.toNat)) w:=by
 obtain⟨b,rfl⟩:=Int.eq_ofNat_of_zero_le h0
 have hb:b≤cap:=by omega
 unfold execOp
 simp only[ho,hx,hhi,hmx,Option.map,Instr.sliceAt,Sem.run_bind,Sem.run_pure,Result.andThen_ok,run_underlying ht,Instr.slice,Instr.sliceBounds,Instr.sliceBound,asIntOf]
 simp only[Int.toNat_natCast]
 simp[hb,ic hs,cutA]
 rfl
end
section
variable {α:Type} {M:Mem} {sz:Nat} {f:α→Dat} {A:Oa} {cap:Nat} {xs:List α}
theorem Sli.full (h:Sli M sz f A cap xs) {b:Nat} (hb:b≤xs.length):Sli M sz f (cutA A sz 0 b) (xs.take b).length (xs.take b):=by
 obtain⟨h1,h2,h3⟩:=h
 have hl: (xs.take b).length=b:=by rw[List.length_take];omega
 refine⟨Nat.le_refl _,λe=>?_,?_⟩
 ·rw[hl]
  unfold cutA at e
  split at e
  ·omega
  cases A with
  |none=>have:=h2 rfl;omega
  |some ad=>simp at e
 rcases h3 with h3|⟨ad,h4,h5⟩
 ·exact .inl (by simp[h3])
 by_cases hac:b=0
 ·exact .inl (by simp[hac])
 refine .inr ⟨ad.add (0*sz),by simp[cutA,hac,h4],?_⟩
 rw[List.map_take]
 have:=RepArr.drop 0 (RepArr.take b h5)
 simpa using this
end
section
variable {α:Type} {P:Program} {ops:Array Oper} {n:Nat} {Q:Exit→Act→World→Prop} {L:Fr} {a:Act} {w0 w:World} {M:Mem} {H:List Ent} {sz:Nat} {f:α→Dat} {dd:List Deferred}
theorem Hp.appendFull {t tx ty e:TypeId} {i:TypeInfo} {z x:Value} {m:Nat} {xs:List α} {news:Lv} {A:Oa} (hp:Hp w0 M H w) (hxs:Sli M sz f A xs.length xs) (hs:Src P sz tx x m news w) (hm:0<m)
 (ht:P.underlying t=some (.slice e)) (hi:P.info? e=some i) (hz:i.zero=some z) (hsz:i.size=sz) (hzs:z.cells.size=sz) (h0:0<sz) (hb: (xs.length+m)*i.bytes≤140737488355328) (h63:xs.length+m≤9223372036854775807):
 ∃v' cs w',(Builtin.append_ #[t,tx] ty #[.slice A xs.length xs.length,x]).run P w=.ok v' w'∧au M (xs.map f) cs∧Hp w0 M (.row e sz v' (xs.length+m) (cs++news)::H) w':=by
 subst hsz
 have hl:=hs.newsLen
 have hold: ∃cs:Lv,cs.length=xs.length*i.size∧au M (xs.map f) cs∧(Builtin.firstCells i.size xs.length (.slice A xs.length xs.length)).run P w.drew=.ok cs.toArray w.drew:=by
  obtain⟨h1,h2,h3⟩:=hxs
  cases A with
  |none=>
   have h4:=h2 rfl
   have h5:xs=[]:=List.eq_nil_of_length_eq_zero h4
   subst h5
   exact⟨[],by simp,rfl,run_firstCells_none w.drew i.size 0 0 0⟩
  |some ad=>
   have h5:RepArr M i.size (xs.map f) ad:=by
    rcases h3 with h3|⟨ad',e',h5⟩
    ·subst h3;trivial
    cases e';exact h5
   obtain⟨cs,k1,k2,k3⟩:=RepArr.cells h5
   have k1':cs.length=xs.length*i.size:=by simpa using k1
   exact⟨cs,k1',k2,run_firstCells_some w.drew i.size xs.length ad xs.length xs.length cs k1' λj u hu=>hp.drew.cell (k3 j u hu)⟩
 obtain⟨cs,k1,k2,k3⟩:=hold
 have hc:xs.length<xs.length+m:=by omega
 have hr:=run_append_grow_src (P:=P) w t tx ty e i z ht hi hz A xs.length xs.length cs k3 x m news hs hc (by omega) (growslice_fits hc hb)
 have hlen: (cs++news).length=(xs.length+m)*i.size:=by rw[List.length_append,k1,hl,Nat.add_mul]
 refine⟨_,cs,_,hr,k2,?_⟩
 refine(hp.drew.alloc _).objRow (grownCap_ge w (xs.length+m) xs.length e) (grownCap_le_maxLen w (xs.length+m) xs.length e (by unfold maxLen;exact h63)) (yM (grownCap_le_maxLen w (xs.length+m) xs.length e (by unfold maxLen;exact h63)) ?_) ?_ hlen
 ·have:=grownCap_ge w (xs.length+m) xs.length e
  rw[Array.size_append,List.size_toArray,size_zeroCells,hzs,hlen,←Nat.add_mul]
  congr 1
  omega
 rw[Array.toList_append,←hlen]
 exact List.take_left
theorem W_appendFS {o:Oper} {rest:List Oper} {d:Nat} {t e:TypeId} {x y:Operand} {z:Value} {bytes c:Nat} {A B:Oa} {xs ys:List α} (hf:Frm n L a dd) (hp:Hp w0 M H w) (h0:0<sz) (hsz: ∀x,Szd sz (f x))
 (hxs:Sli M sz f A xs.length xs) (hys:Sli M sz f B c ys)
 (hw:bv ops L o=some true) (hr:bX L o=true) (hd:o.dst=some d) (hdn:Nat.blt d n=true) (ho:o.op=.call {callee:=.builtin .append,args:=#[x,y],argTypes:=#[t,t]})
 (hx:ev L x=.slice A xs.length xs.length) (hy:ev L y=.slice B ys.length c) (ht:P.underlying t=some (.slice e)) (hi:infoIs P e z sz bytes=true)
 (hb: (xs.length+ys.length)*bytes≤140737488355328) (h63:xs.length+ys.length≤9223372036854775807)
 (hk: ∀A cap M' w',M.le M'→Hp w0 M' H w'→Sli M' sz f A cap (xs++ys)→∀a',Frm n ((d,.slice A (xs++ys).length cap)::L) a' dd→wpList P ops Q rest a' w'):wpList P ops Q (o::rest) a w:=by
 obtain⟨i,u,hi1,hi2,hi3,hi4,hi5,hi6⟩:=AJ hi
 obtain⟨h1,h2,h3⟩:=hys
 have hsrc: ∃news,au M (ys.map f) news∧Src P sz t (.slice B ys.length c) ys.length news w:=by
  cases B with
  |none=>
   have h4:=h2 rfl
   have h5:ys=[]:=List.eq_nil_of_length_eq_zero (by omega)
   subst h5
   exact⟨[],rfl,Src.ofNil w ht c⟩
  |some ad=>
   have h5:RepArr M sz (ys.map f) ad:=by
    rcases h3 with h3|⟨ad',e',h5⟩
    ·subst h3;trivial
    cases e';exact h5
   obtain⟨news,k1,k2,k3⟩:=RepArr.cells h5
   exact⟨news,k2,Src.ofSlice (P:=P) (size:=sz) w ht ad ys.length c news (by simpa using k1) (λj u hu=>hp.cell (k3 j u hu)) (au.oneC _ _ k2)⟩
 obtain⟨news,hns,hsrc⟩:=hsrc
 rcases Nat.eq_zero_or_pos ys.length with hz|hz
 ·have hy0:ys=[]:=List.eq_nil_of_length_eq_zero hz
  subst hy0
  have hnw:news=[]:=List.eq_nil_of_length_eq_zero (by simpa using hsrc.newsLen)
  subst hnw
  have hrun:=run_append_nothing w t t o.type e i ht hi1 A xs.length xs.length (Nat.le_refl _) (.slice B 0 c) (by rw[hi3];exact hsrc)
  refine Af hf hw hr hd hdn (xP ho hx hy hrun) λa' ha=>?_
  refine hk A xs.length M w (Mem.le_refl _) hp (by rw[List.append_nil];exact hxs) a' ?_
  rw[List.append_nil];exact ha
 obtain⟨v',cs,w',hrun,hcs,hp'⟩:=hp.appendFull (ty:=o.type) hxs hsrc hz ht hi1 hi2 hi3 hi5 h0 (by rw[hi4];exact hb) h63
 have e3:xs.length+ys.length=(xs++ys).length:=by simp
 rw[e3] at hp'
 obtain⟨A',cap,M',rfl,hM,hp2,hsl⟩:=hp'.rowSli (f:=f) hsz (hcs.more hns)
 refine Af hf hw hr hd hdn (xP ho hx hy hrun) λa' ha=>?_
 exact hk A' cap M' w' hM hp2 hsl a' ha
end
section
variable {P:Program} {w:World} {d:Nat} {xs ys:Array Value}
theorem EqS {t:TypeId} {a b:Bs} (ht:P.underlying t=some .string): (Op.equalIn (d+1) t (S a) (S b)).run P w=.ok (decide (a=b)) w:=by
 have: ((⟨a.toArray⟩:ByteArray)== ⟨b.toArray⟩)=decide (a=b):=by
  rw[beq_toListBytes,ByteArray.toList_eq,ByteArray.toList_eq]
  rw[Bool.eq_iff_iff];simp
 simp only[Op.equalIn,Sem.run_bind,run_underlying ht,Result.andThen_ok,Sem.run_pure,this]
theorem EqI {t:TypeId} {k:IntKind} {a b:Int} (ht:P.underlying t=some (.int k)): (Op.equalIn (d+1) t (.int k a) (.int k b)).run P w=.ok (decide (a=b)) w:=by
 have: (a==b)=decide (a=b):=by rw[Bool.eq_iff_iff];simp
 simp[Op.equalIn,run_underlying ht,this]
theorem EqB {t:TypeId} {a b:Bool} (ht:P.underlying t=some .bool): (Op.equalIn (d+1) t (.bool a) (.bool b)).run P w=.ok (a==b) w:=by
 simp[Op.equalIn,run_underlying ht]
def FEq (P:Program) (d:Nat) (xs ys:Array Value) (w:World):List (TypeId×Nat)→CE→Prop|[],[]=>True|(t,o)::s,r::rs=>(∃a b,(part t xs o).run P w=.ok a w∧(part t ys o).run P w=.ok b w∧(Op.equalIn d t a b).run P w=.ok r w)∧FEq P d xs ys w s rs|_,_=>False
def fieldsAre:List Field→List (TypeId×Nat)→Bool|[],[]=>true|f::fs,(t,o)::s=>f.name != "_"&& (Nat.beq f.type t&& (Nat.beq f.offset o&&fieldsAre fs s))|_,_=>false
def andL:CE→Bool|[]=>true|[r]=>r|r::rs=>r&&andL rs
theorem andL_cons (r:Bool) (rs:CE):andL (r::rs)=(r&&andL rs):=by cases rs<;>simp[andL]
theorem FEq.run: ∀ {fs:List Field} {s:List (TypeId×Nat)} {rs:CE},fieldsAre fs s=true→FEq P d xs ys w s rs→(Op.eqFields d xs ys fs).run P w=.ok (andL rs) w
 |[],[],[],_,_=>by simp[Op.eqFields,andL]
 |f::fs,(t,o)::s,r::rs,h,⟨⟨a,b,ha,hb,hr⟩,h2⟩=>by
  simp only[fieldsAre,Bool.and_eq_true,bne_iff_ne] at h
  obtain⟨h1,h3,h4,h5⟩:=h
  have e1:=Nat.eq_of_beq_eq_true h3
  have e2:=Nat.eq_of_beq_eq_true h4
  subst e1;subst e2
  have ih:=FEq.run h5 h2
  rw[andL_cons]
  simp only[Op.eqFields,h1,ne_eq,not_false_eq_true,if_true,Sem.run_bind,ha,hb,hr,Result.andThen_ok]
  cases r
  ·simp
  simpa using ih
 |[],[],_::_,_,h=>h.elim
 |[],_::_,_,h,_=>by simp[fieldsAre] at h
 |_::_,[],_,h,_=>by simp[fieldsAre] at h
 |_::_,_::_,[],_,h=>h.elim
theorem X_aggEq {o:Oper} {ρ:Operand→Value} {t t':TypeId} {x y:Operand} {xs ys:Array Value} {s:List (TypeId×Nat)} {rs:CE} (ho:o.op=.binOp .eql t x y t') (hx:ρ x=.agg xs) (hy:ρ y=.agg ys) (hg:P.eqGuardType P.depth t=false)
 (ht:P.underlying t=some (.struct (P.fieldsOf t))) (hp:P.stoodInHeld t=false) (hf:fieldsAre (P.fieldsOf t).toList s=true) (h: ∀w,FEq P 9999 xs ys w s rs) (w:World): (execOp ρ o).run P w=.ok (.value (.bool (andL rs))) w:=by
 unfold execOp
 simp only[ho,hx,hy,Sem.run_bind,run_eqGuard_agg w .eql t x y xs ys hg,Result.andThen_ok,run_eql_struct,run_equalIn_struct w 9999 t xs ys ht hp,FEq.run hf (h w),Sem.run_pure]
end
section
variable {κ V:Type} {P:Program} {w:World} {ek:κ→Value} {ev:V→Value}
theorem X_lenMap {o:Oper} {ρ:Operand→Value} {t kt et:TypeId} {x:Operand} {b:Nat} {m:List (κ×V)} (ho:o.op=.call {callee:=.builtin .len,args:=#[x],argTypes:=#[t]}) (hx:ρ x=.map (some b)) (ht:P.underlying t=some (.map kt et))
 (hb:w.heap[b]? =some (kl ek ev m)): (execOp ρ o).run P w=.ok (.value (.int .i64 (m.length:Int))) w:=by
 have hb':w.heap[b]? =some (.map (((m.map λp=>(p.1,ev p.2)).zipIdx.map (mEnt ek)).toArray) (m.map λp=>(p.1,ev p.2)).length):=hb
 unfold execOp
 simp only[ho,resolve,invoke,builtin,List.map_toArray,List.map_cons,List.map_nil,hx,Sem.run_bind,Sem.run_pure,Result.andThen_ok]
 simp[Builtin.len_,run_underlying ht,MapKept.run_getObj_map hb',goInt,Result.andThen]
end
section
variable {α:Type} {P:Program} {ops:Array Oper} {n:Nat} {Q:Exit→Act→World→Prop} {L:Fr} {a:Act} {w0 w:World} {M:Mem} {H:List Ent} {sz:Nat} {f:α→Dat} {dd:List Deferred}
end
end Go.Vc
end
section
namespace Go.Vc
open Go Go.RowKit Go.Sort
section
variable {α:Type}
theorem Bt {xs:List α} {i:Int} {x y:α} (h:aq xs i=some x):aq (xs.set i.toNat y) i=some y:=by
 obtain⟨h0,h1,h2⟩:=cH h
 unfold aq
 rw[if_pos h0,List.getElem?_set_self (by omega)]
theorem seg_eq {cs c0:Lv} {k sz:Nat} (hl:c0.length=sz) (h: ∀j v,c0[j]? =some v→cs[k+j]? =some v):cs=cs.take k++(c0++cs.drop (k+sz)):=by
 apply List.ext_getElem?
 intro j
 by_cases h1:j<k
 ·by_cases h2:j<cs.length
  ·rw[List.getElem?_append_left (by rw[List.length_take];omega),List.getElem?_take_of_lt h1]
  have hz:sz=0∨0<sz:=by omega
  rcases hz with hz|hz
  ·have e:c0=[]:=List.eq_nil_of_length_eq_zero (by omega)
   subst e
   rw[hz,Nat.add_zero,List.nil_append,List.take_append_drop]
  have h3:=h 0 c0[0] (List.getElem?_eq_getElem (by omega))
  rw[Nat.add_zero] at h3
  have:=(List.getElem?_eq_some_iff.1 h3).1
  omega
 by_cases h2:j<k+sz
 ·have hj:c0[j-k]? =some c0[j-k]:=List.getElem?_eq_getElem (by omega)
  have h3:=h _ _ hj
  have e:k+ (j-k)=j:=by omega
  rw[e] at h3
  have hk:k≤cs.length:=by have:=(List.getElem?_eq_some_iff.1 h3).1;omega
  rw[h3,List.getElem?_append_right (by rw[List.length_take];omega),List.length_take,Nat.min_eq_left hk,List.getElem?_append_left (by omega),hj]
 by_cases hk:k≤cs.length
 ·rw[List.getElem?_append_right (by rw[List.length_take];omega),List.length_take,Nat.min_eq_left hk,List.getElem?_append_right (by omega),List.getElem?_drop]
  congr 1
  omega
 rw[List.getElem?_eq_none (by omega),List.getElem?_eq_none]
 rw[List.length_append,List.length_take,List.length_append,List.length_drop,hl]
 have hz:sz=0:=by
  rcases Nat.eq_zero_or_pos sz with hz|hz
  ·exact hz
  have h3:=h 0 c0[0] (List.getElem?_eq_getElem (by omega))
  have:=(List.getElem?_eq_some_iff.1 h3).1
  omega
 omega
end
section
variable {α:Type} {P:Program} {ops:Array Oper} {n:Nat} {Q:Exit→Act→World→Prop} {L:Fr} {a:Act} {w0 w:World} {M:Mem} {H:List Ent} {sz:Nat} {f:α→Dat} {dd:List Deferred}
theorem zr {o:Oper} {rest:List Oper} {t e:TypeId} {x y:Operand} {it:Int} {m cap g off:Nat} {v0 u:Value} {d:List α} {xv x0:α} {cs c0 c1:Lv} (hf:Frm n L a dd) (hp:Hp w0 M (.row e sz v0 d.length cs::H) w) (hv0:v0=.slice (some ⟨g,0,none⟩) m cap)
 (hw:bv ops L o=some true) (hr:bX L o=true) (hd:o.dst=none) (ho:o.op=.store t x y) (hx:ev L x=.pointer (some (((⟨g,0,none⟩:Addr).add (it.toNat*sz)).add off))) (hy:ev L y=u) (hu:u.oneCell'=true) (hs:szIs P t 1=true) (hfs: ∀x,Szd sz (f x)) (hg:aq d it=some x0)
 (hcs:au M (d.map f) cs) (hl0:c0.length=sz) (hc0: ∀j v,c0[j]? =some v→cs[it.toNat*sz+j]? =some v) (ho1:off<c0.length) (h01:c0.set off u=c1) (hv:Rep M (f xv) c1)
 (hk: ∀w',Hp w0 M (.row e sz v0 (d.set it.toNat xv).length (cs.set (it.toNat*sz+off) u)::H) w'→au M ((d.set it.toNat xv).map f) (cs.set (it.toNat*sz+off) u)→∀a',Frm n L a' dd→wpList P ops Q rest a' w'):wpList P ops Q (o::rest) a w:=by
 subst h01
 have hlen:=au.len (jt hfs) hcs
 rw[List.length_map] at hlen
 have hlt:it.toNat<d.length:=by have:=lY hg;have:=lZ hg;omega
 have hmul: (it.toNat+1)*sz≤d.length*sz:=Nat.mul_le_mul_right _ hlt
 rw[Nat.add_mul,Nat.one_mul] at hmul
 have hj:it.toNat*sz+off<cs.length:=by omega
 have hseg:=seg_eq hl0 hc0
 have eset:cs.set (it.toNat*sz+off) u=cs.take (it.toNat*sz)++(c0.set off u++cs.drop (it.toNat*sz+sz)):=by
  have htl: (cs.take (it.toNat*sz)).length=it.toNat*sz:=by rw[List.length_take];omega
  conv=>lhs;rw[hseg]
  rw[List.set_append_right _ _ (by omega),htl,Nat.add_sub_cancel_left,List.set_append_left _ _ ho1]
 have hseq:au M ((d.set it.toNat xv).map f) (cs.set (it.toNat*sz+off) u):=by
  rw[eset,List.set_eq_take_append_cons_drop,if_pos hlt,List.map_append,List.map_cons]
  refine au.append ?_ ⟨c0.set off u,_,rfl,hv,?_⟩
  ·rw[List.map_take]
   exact au.takeD _ (jt hfs) hcs
  rw[List.map_drop]
  have e1:it.toNat*sz+sz=(it.toNat+1)*sz:=by rw[Nat.add_mul,Nat.one_mul]
  rw[e1]
  exact au.dropD _ (jt hfs) hcs
 obtain⟨h1,h2,q,h3⟩:=hp.rowSet hv0 (it.toNat*sz+off) hj u
 rw[Addr.add_lit,Addr.add_lit,Nat.zero_add] at hx
 refine xy hf hw hr hd (Bd ho hx hy hu hs h3 h2) (hk _ ?_ hseq)
 rw[List.length_set];exact h1
end
theorem strs_eq_ {M:Mem}: ∀ {xs:List Bs} {cs:Lv},au M (xs.map Dat.str) cs→cs=xs.map S
 |[],_,h=>h
 |x::r,_,⟨c,c',e1,e2,h⟩=>by
  subst e1
  have e3:c=[S x]:=e2
  rw[e3,strs_eq_ h];rfl
theorem strs_rep {M:Mem}: ∀xs:List Bs,au M (xs.map Dat.str) (xs.map S)
 |[]=>rfl
 |x::r=>⟨[S x],_,rfl,rfl,strs_rep r⟩
theorem compactRow {α:Type} [Inhabited α] [DecidableEq α] {P:Program} {f:FuncId} {e:TypeId} {enc:α→Value} {zs:List α} (z:α)
 (hS: ∀blk off cap w,Holds enc w blk off zs.toArray→zs.length≤cap→Calls P f #[.slice (some ⟨blk,off,none⟩) zs.length cap] w λe w'=>e=.returned (.slice (some ⟨blk,off,none⟩) (Lib.compact zs).length cap)∧∃q,w'=putRow enc (Sort.ahead w q) blk off (Lib.compact zs++List.replicate (zs.length- (Lib.compact zs).length) z).toArray)
 (hN: ∀a cap w,Calls P f #[.slice a 0 cap] w λe w'=>e=.returned (.slice a 0 cap)∧w'=w) (hle: (Lib.compact zs).length≤zs.length) (M:Mem) (A:Oa) (cap:Nat):
 OkH P M [.row e 1 (.slice A zs.length cap) zs.length (zs.map enc)] f [.slice A zs.length cap] λ_ E' u=>u=.slice A (Lib.compact zs).length cap∧E'=[.row e 1 (.slice A (Lib.compact zs).length cap) (Lib.compact zs).length ((Lib.compact zs).map enc)]:=by
 intro M2 hM w0 H w hp
 rcases hp.rowObj with⟨h1,h2,h3,h4⟩|⟨g,cap',cur,h1,h2,h3,h4,h5,h6,h7⟩
 ·have hz:zs=[]:=List.eq_nil_of_length_eq_zero h2
  subst hz
  have hc:Lib.compact ([]:List α)=[]:=List.eq_nil_of_length_eq_zero (by simpa using hle)
  have h:=hN A cap w
  refine h.mono λ_ w' ⟨he,hw⟩=>⟨_,he,M2,_,Mem.le_refl _,?_,by rw[hc];rfl,rfl⟩
  subst hw
  rw[hc]
  exact hp
 obtain⟨rfl,-,rfl⟩:=Value.slice.inj h1
 have hcell: ∀j,j<zs.length→cur[j]? =(zs.map enc)[j]? :=λj hj=>by
  rw[←h5,List.getElem?_take_of_lt (by omega),Array.getElem?_toList]
 have hH:Holds enc w g 0 zs.toArray:=λj hj=>by
  have hj':j<zs.length:=by simpa using hj
  refine⟨?_,?_⟩
  ·rw[Nat.zero_add,h7.ownCell 0 rfl,hcell j hj']
   simp[hj']
  rw[Nat.zero_add]
  exact h7.ownFrozen 0 rfl j (by omega)
 have hg:g<w.heap.size:=lG (h7.own _ List.mem_cons_self).2
 refine(hS g 0 cap w hH h2).mono λ_ w' ⟨he,n,hw⟩=>⟨_,he,M2,_,Mem.le_refl _,?_,rfl,rfl⟩
 subst hw
 have h8:Hp w0 M2 (.obj g (.cells cur e (0,0))::H) (Sort.ahead w n):=h7.sameHeap rfl rfl rfl rfl
 have h9:=h8.mapCells (putCells enc 0 (Lib.compact zs++List.replicate (zs.length- (Lib.compact zs).length) z).toArray)
 have hcs:cap≤cur.size:=by have:=h4.1;omega
 have hlen:zs.length≤cap:=h2
 refine h9.objRow (Nat.le_trans hle h2) h3 (by simpa [putCells] using h4) ?_ (by simp)
 apply List.ext_getElem?
 intro j
 by_cases hj:j<(Lib.compact zs).length
 ·rw[List.getElem?_take_of_lt (by omega),Array.getElem?_toList]
  have hjc:j<cur.size:=by omega
  simp[putCells,hjc,hj,List.getElem?_append_left,List.getElem_append_left]
  omega
 rw[List.getElem?_eq_none (by simp;omega),List.getElem?_eq_none (by simp;omega)]
end Go.Vc
end
section
namespace Go.Vc
open Go Go.RowKit
variable {dd:List Deferred}
def flawE (T:Nat) (x:Int×Bs):List PanicEntry:=[{v:=.iface T (.agg #[.int .i64 x.1,S x.2]),recovered:=false}]
def OkX {ρ:Type} (P:Program) (M:Mem) (f:FuncId) (args:Lv) (T:Nat) (r:Sum (Int×Bs) ρ) (Post:ρ→Mem→Value→Prop):Prop:=∀M2,M.le M2→∀w0 H w,Hp w0 M2 H w→Calls P f args.toArray w λe w'=>match r with|.inl x=>∃M',M2.le M'∧Hp w0 M' H w'∧e=.panicked (flawE T x)|.inr y=>∃v,e=.returned v∧∃M',M2.le M'∧Hp w0 M' H w'∧Post y M' v
def OkXH {ρ:Type} (P:Program) (M:Mem) (E:List Ent) (f:FuncId) (args:Lv) (T:Nat) (r:Sum (Int×Bs) ρ) (Post:ρ→Mem→List Ent→Value→Prop):Prop:=∀M2,M.le M2→∀w0 H w,Hp w0 M2 (E++H) w→Calls P f args.toArray w λe w'=>match r with|.inl x=>∃M',M2.le M'∧Hp w0 M' H w'∧e=.panicked (flawE T x)|.inr y=>∃v,e=.returned v∧∃M' E',M2.le M'∧Hp w0 M' (E'++H) w'∧Post y M' E' v
section
variable {ρ:Type} {P:Program} {M:Mem} {E:List Ent} {f:FuncId} {args:Lv} {T:Nat}
theorem OkX.ok {y:ρ} {Post:ρ→Mem→Value→Prop} (h:OkX P M f args T (.inr y) Post):Ok P M f args (Post y):=h
theorem OkXH.ok {y:ρ} {Post:ρ→Mem→List Ent→Value→Prop} (h:OkXH P M E f args T (.inr y) Post):OkH P M E f args (Post y):=h
end
section
variable {P:Program} {ops:Array Oper} {n:Nat} {Q:Exit→Act→World→Prop} {L:Fr} {a:Act} {w0 w:World} {M:Mem} {H:List Ent} {ρ:Type} {T:Nat}
end
section
variable {P:Program} {Q:Exit→Act→World→Prop} {a:Act} {w:World} {ch:List PanicEntry} {fn:Func} {R:Ending→World→Prop} {n:Nat} {L:Fr}
end
end Go.Vc
namespace Go.Vc
open Go Go.RowKit
end Go.Vc
namespace Go.Vc
open Go
end Go.Vc
end
section
namespace Go.Vc
open Go Go.RowKit
variable {dd:List Deferred}
abbrev Hp.en {w0 w:World} {M:Mem} {H:List Ent} (_:Hp w0 M H w):List Ent:=H
def kpL (ks:List Nat) (L:Fr):Fr:=ks.map λk=>(k,(look L k).getD undef)
section
variable {P:Program} {n:Nat} {Q:Exit→Act→World→Prop} {a:Act} {w0 w:World} {M:Mem}
end
theorem Mem.le_tr {a b c:Mem} (h:b.le c) (h':a.le b):a.le c:=h'.trans h
theorem mL {M M':Mem} (h:M.le M':=by repeat (first|with_reducible assumption|with_reducible exact Mem.le_refl _|refine Mem.le_tr (by with_reducible assumption) ?_)):M.le M':=h
section
variable {M M':Mem} {sz:Nat} {α:Type} {f:α→Dat} {A:Oa} {cap:Nat} {xs:List α}
end
def ldX (o:Oper):Operand:=match o.op with|.load _ x=>x|_=>.const undef
def szN (P:Program) (t:TypeId):Nat:=match P.info? t with|some i=>i.size|none=>0
def okLd (P:Program) (o:Oper) (j:Nat) (cs:Lv):Bool:=match o.op with|.load t _=>bif one1 P t then Nat.blt j cs.length else aggN P t (szN P t)&&Nat.ble (j+szN P t) cs.length|_=>false
def ldV (P:Program) (o:Oper) (j:Nat) (cs:Lv):Value:=match o.op with|.load t _=>bif one1 P t then(cs[j]?).getD undef else .agg ((cs.drop j).take (szN P t)).toArray|_=>undef
def offV:Value→Nat|.pointer (some ad)=>ad.off|_=>0
def cellsE (H:List Ent) (i:Nat):Lv:=match H[i]? with|some (.obj _ (.cells cs _ _))=>cs.toList|_=>[]
def blkE (H:List Ent) (i:Nat):Nat:=match H[i]? with|some (.obj b _)=>b|_=>0
section
variable {P:Program} {w0 w:World} {M:Mem} {H:List Ent} {ρ:Operand→Value} {o:Oper}
theorem XL {cs:Lv} {base:Addr} (hc: ∀k v,cs[k]? =some v→w.cell? (base.add k)=some v) (j:Nat) (hx:ρ (ldX o)=.pointer (some (base.add j))) (hB:okLd P o j cs=true):
 (execOp ρ o).run P w=.ok (.value (ldV P o j cs)) w:=by
 unfold okLd at hB
 split at hB
 ·rename_i t x he
  have hx':ρ x=.pointer (some (base.add j)):=by simpa [ldX,he] using hx
  have hV:ldV P o j cs=bif one1 P t then(cs[j]?).getD undef else .agg ((cs.drop j).take (szN P t)).toArray:=by unfold ldV;rw[he]
  rw[hV]
  cases h1:one1 P t with
  |true=>
   rw[h1,cond_true] at hB
   have hlt:j<cs.length:=by simpa [Nat.blt_eq] using hB
   refine sQ he hx' h1 (hc j _ ?_)
   simp[List.getElem?_eq_getElem hlt]
  |false=>
   rw[h1,cond_false] at hB
   obtain⟨h2,h3⟩:=Bool.and_eq_true_iff.1 hB
   have hle:=Nat.le_of_ble_eq_true h3
   have hl: ((cs.drop j).take (szN P t)).length=szN P t:=by rw[List.length_take,List.length_drop];omega
   refine X_loadN he hx' (by rw[hl];exact h2) λk v hv=>?_
   have hk:k<szN P t:=hl▸ (List.getElem?_eq_some_iff.1 hv).1
   rw[List.getElem?_take_of_lt hk,List.getElem?_drop] at hv
   rw[dg]
   exact hc _ v hv
 cases hB
def ixS (o:Oper):Operand:=match o.op with|.indexAddr _ x _=>x|_=>.const undef
def ixI (o:Oper):Operand:=match o.op with|.indexAddr _ _ x=>x|_=>.const undef
def ixZ (P:Program) (o:Oper):Nat:=match o.op with|.indexAddr t _ _=>(match P.underlying t with|some (.slice e)=>szN P e|_=>0)|_=>0
def okIx (P:Program) (o:Oper):Bool:=match o.op with|.indexAddr t _ _=>(match P.underlying t with|some (.slice e)=>szIs P e (szN P e)|_=>false)|_=>false
def capV:Value→Nat|.slice _ _ c=>c|_=>0
def kindV:Value→IntKind|.int k _=>k|_=>.i64
theorem XI {α:Type} {A:Oa} {ad:Addr} {xs:List α} {it:Int} {x0:α} (hA:A=some ad) (hg:aq xs it=some x0) (hs:ρ (ixS o)=.slice A xs.length (capV (ρ (ixS o))):=by kernel_rfl) (hi:ρ (ixI o)=.int (kindV (ρ (ixI o))) it:=by kernel_rfl) (hB:okIx P o=true:=by kernel_rfl):
 (execOp ρ o).run P w=.ok (.value (Pa (ad.add (it.toNat*ixZ P o)))) w:=by
 unfold okIx at hB
 split at hB
 ·rename_i t x y he
  split at hB
  ·rename_i e hu
   have h1:ixZ P o=szN P e:=by unfold ixZ;rw[he];simp only[hu]
   rw[h1]
   exact nZ hA he (by simpa [ixS,he] using hs) (by simpa [ixI,he] using hi) hu hB (lZ hg) (lY hg)
  cases hB
 cases hB
end
def setL:Lv→Nat→Lv→Lv|c::cs,0,v::vs=>v::setL cs 0 vs|c::cs,j+1,vs=>c::setL cs j vs|cs,_,_=>cs
theorem setL_nil (l:Lv) (j:Nat):setL l j []=l:=by
 induction l generalizing j with
 |nil=>cases j<;>rfl
 |cons c cs ih=>cases j with
  |zero=>rfl
  |succ j=>simp only[setL];rw[ih]
theorem setL_eq: ∀ (l:Lv) (j:Nat) (vs:Lv),j+vs.length≤l.length→setL l j vs=l.take j++vs++l.drop (j+vs.length)
 |l,j,[],h=>by rw[setL_nil];simp
 |[],j,v::vs,h=>by simp at h
 |c::cs,0,v::vs,h=>by
  simp only[List.length_cons] at h
  simp only[setL]
  rw[setL_eq cs 0 vs (by omega)]
  simp
 |c::cs,j+1,v::vs,h=>by
  simp only[List.length_cons] at h
  simp only[setL]
  rw[setL_eq cs j (v::vs) (by simp only[List.length_cons];omega)]
  simp only[List.take_succ_cons,List.cons_append,List.length_cons]
  rw[show j+1+ (vs.length+1)=(j+ (vs.length+1))+1 by omega,List.drop_succ_cons]
theorem setL_M {cs:Array Value} {j:Nat} {vs:Lv} (h:j+vs.length≤cs.size):setM cs j vs=(setL cs.toList j vs).toArray:=by
 apply Array.ext'
 rw[wF _ _ _ h,List.toList_toArray,setL_eq _ _ _ (by rw[Array.length_toList];exact h)]
def setE:List Ent→Nat→Nat→Lv→List Ent|.obj b (.cells cs T fr)::H,0,j,vs=>.obj b (.cells (setL cs.toList j vs).toArray T fr)::H|e::H,i+1,j,vs=>e::setE H i j vs|H,_,_,_=>H
theorem setE_eq0: ∀ {H:List Ent} {i j b:Nat} {vs:Lv} {cs:Array Value} {T:TypeId} {fr:Nat×Nat},H[i]? =some (.obj b (.cells cs T fr))→setE H i j vs=H.set i (.obj b (.cells (setL cs.toList j vs).toArray T fr))
 |[],i,j,b,vs,cs,T,fr,h=>by simp at h
 |e::H,0,j,b,vs,cs,T,fr,h=>by
  simp only[List.getElem?_cons_zero,Option.some.injEq] at h
  subst h
  rfl
 |e::H,i+1,j,b,vs,cs,T,fr,h=>by
  simp only[List.getElem?_cons_succ] at h
  have:=setE_eq0 (j:=j) (vs:=vs) h
  simp only[List.set_cons_succ]
  rw[←this]
  cases e with
  |obj c o=>cases o<;>rfl
  |row=>rfl
theorem setE_eq {H:List Ent} {i j b:Nat} {vs:Lv} {cs:Array Value} {T:TypeId} {fr:Nat×Nat} (h:H[i]? =some (.obj b (.cells cs T fr))) (hj:j+vs.length≤cs.size):setE H i j vs=H.set i (.obj b (.cells (setM cs j vs) T fr)):=by
 rw[setE_eq0 h,setL_M hj]
def stX (o:Oper):Operand:=match o.op with|.store _ x _=>x|_=>.const undef
def stY (o:Oper):Operand:=match o.op with|.store _ _ y=>y|_=>.const undef
def okSt (P:Program) (ops:Array Oper) (L:Fr) (o:Oper) (H:List Ent) (i j:Nat) (vs:Lv):Bool:=(match bv ops L o with|some true=>true|_=>false)&&bX L o&&o.dst.isNone&& (match o.op with|.store t _ _=>szIs P t vs.length|_=>false)&& (match H[i]? with|some (.obj _ (.cells cs _ (lo,hi)))=>Nat.ble (j+vs.length) cs.size&&Nat.ble hi lo|_=>false)&&vs.all (·.oneCell')
theorem okSt_spec {P:Program} {ops:Array Oper} {L:Fr} {o:Oper} {H:List Ent} {i j:Nat} {vs:Lv} (h:okSt P ops L o H i j vs=true):
 bv ops L o=some true∧bX L o=true∧o.dst=none∧(∃t,o.op=.store t (stX o) (stY o)∧szIs P t vs.length=true)∧
 (∃cs T lo hi,H[i]? =some (.obj (blkE H i) (.cells cs T (lo,hi)))∧j+vs.length≤cs.size∧hi≤lo)∧∀v∈vs,v.oneCell'=true:=by
 unfold okSt at h
 simp only[Bool.and_eq_true] at h
 obtain⟨⟨⟨⟨⟨h1,h2⟩,h3⟩,h4⟩,h5⟩,h6⟩:=h
 refine⟨?_,h2,by simpa using h3,?_,?_,by simpa using h6⟩
 ·split at h1
  ·assumption
  cases h1
 ·split at h4
  ·rename_i t x y he
   exact⟨t,by simp[stX,stY,he],h4⟩
  cases h4
 split at h5
 ·rename_i b cs T lo hi he
  simp only[Bool.and_eq_true] at h5
  refine⟨cs,T,lo,hi,?_,Nat.le_of_ble_eq_true h5.1,Nat.le_of_ble_eq_true h5.2⟩
  unfold blkE;rw[he]
 cases h5
section
variable {P:Program} {ops:Array Oper} {n:Nat} {Q:Exit→Act→World→Prop} {L:Fr} {a:Act} {w0 w:World} {M:Mem} {H:List Ent}
theorem Wt {o:Oper} {rest:List Oper} (hf:Frm n L a dd) (hp:Hp w0 M H w) (i j:Nat) (v:Value) (hk: ∀w',Hp w0 M (setE H i j [v]) w'→∀a',Frm n L a' dd→wpList P ops Q rest a' w')
 (hB:okSt P ops L o H i j [v]=true:=by kernel_rfl) (hx:ev L (stX o)=Pa ⟨blkE H i,j,none⟩:=by kernel_rfl) (hy:ev L (stY o)=v:=by kernel_rfl):wpList P ops Q (o::rest) a w:=by
 obtain⟨h1,h2,h3,⟨t,h4,h5⟩,⟨cs,T,lo,hi,h6,h7,h8⟩,h9⟩:=okSt_spec hB
 have h7':=h7
 simp only[List.length_cons,List.length_nil] at h7
 refine xO hf hp i h1 h2 h3 h4 hx hy (h9 v (by simp)) h5 h6 (by omega) (by omega) _ (setE_eq (j:=j) (vs:=[v]) h6 h7').symm hk
theorem Wu {o:Oper} {rest:List Oper} (hf:Frm n L a dd) (hp:Hp w0 M H w) (i j:Nat) (vs:Lv) (hk: ∀w',Hp w0 M (setE H i j vs) w'→∀a',Frm n L a' dd→wpList P ops Q rest a' w')
 (hB:okSt P ops L o H i j vs=true:=by kernel_rfl) (hx:ev L (stX o)=Pa ⟨blkE H i,j,none⟩:=by kernel_rfl) (hy:ev L (stY o)=.agg vs.toArray:=by kernel_rfl):wpList P ops Q (o::rest) a w:=by
 obtain⟨h1,h2,h3,⟨t,h4,h5⟩,⟨cs,T,lo,hi,h6,h7,h8⟩,h9⟩:=okSt_spec hB
 refine W_storeN hf (hp.pull i h6 rfl) h1 h2 h3 h4 hx hy h9 h5 h7 h8 rfl λw' hp' a' ha=>hk w' ?_ a' ha
 rw[setE_eq h6 h7]
 exact Hp.at_set i (List.getElem?_eq_some_iff.1 h6).1 hp'
end
section
variable {w0 w:World} {M:Mem} {H:List Ent}
theorem Hp.nilD (h:Hp w0 M H w) (e sz:Nat) (α:Type): ∃A cap,Value.slice none 0 0=.slice A ([]:List α).length cap∧Hp w0 M (.row e sz (.slice A ([]:List α).length cap) ([]:List α).length []::H) w:=⟨none,0,rfl,h.nilRow e sz⟩
theorem Hp.litS {α:Type} {f:α→Dat} {sz b e:Nat} {cs:Array Value} {xs:List α} {cl:List Value} (h:Hp w0 M (.obj b (.cells cs e (0,0))::H) w) (k:Nat) (hf: ∀x,Szd sz (f x)) (hr:au M (xs.map f) cl) (hl:cs.toList=cl:=by kernel_rfl) (hk:xs.length=k:=by rfl) (hm:Nat.ble k maxLen=true:=by rfl):
 ∃A cap M',Value.slice (some ⟨b,0,none⟩) k k=.slice A xs.length cap∧M.le M'∧Hp w0 M' H w∧Sli M' sz f A cap xs:=by
 have hlen:=au.len (jt hf) hr
 rw[List.length_map] at hlen
 have hsz:cs.size=k*sz:=by rw[←Array.length_toList,hl,hlen,hk]
 have hp:Hp w0 M (.row e sz (.slice (some ⟨b,0,none⟩) xs.length xs.length) xs.length cl::H) w:=by
  refine h.objRow (n:=xs.length) (cap:=xs.length) (Nat.le_refl _) (by rw[hk];exact Nat.le_of_ble_eq_true hm) (by rw[hk];exact yM (Nat.le_of_ble_eq_true hm) hsz) ?_ hlen
  rw[hl,←hlen];exact List.take_length
 have hq:=hp.rowSli hf hr
 have hk':xs.length=k:=hk
 rw[hk'] at hq
 rw[hk']
 exact hq
end
section
variable {α:Type} {P:Program} {ops:Array Oper} {n:Nat} {Q:Exit→Act→World→Prop} {L:Fr} {a:Act} {w0 w:World} {M:Mem} {H:List Ent} {sz:Nat} {f:α→Dat}
def okStR (P:Program) (ops:Array Oper) (L:Fr) (o:Oper) (sz:Nat):Bool:=(match bv ops L o with|some true=>true|_=>false)&&bX L o&&o.dst.isNone&& (match o.op with|.store t _ _=>szIs P t sz|_=>false)
theorem Wr {o:Oper} {rest:List Oper} {e:TypeId} {it:Int} {m cap g:Nat} {v0:Value} {d:List α} {xv x0:α} {cs vs:Lv} (hf:Frm n L a dd) (hp:Hp w0 M (.row e sz v0 d.length cs::H) w) (hv0:v0=.slice (some ⟨g,0,none⟩) m cap)
 (hv:Rep M (f xv) vs) (hfs: ∀x,Szd sz (f x)) (hg:aq d it=some x0) (hcs:au M (d.map f) cs)
 (hk: ∀cs' w',Hp w0 M (.row e sz v0 d.length cs'::H) w'→au M ((d.set it.toNat xv).map f) cs'→d.length=(d.set it.toNat xv).length→∀a',Frm n L a' dd→wpList P ops Q rest a' w')
 (hB:okStR P ops L o sz=true:=by kernel_rfl) (hx:ev L (stX o)=Pa ((⟨g,0,none⟩:Addr).add (it.toNat*sz)):=by kernel_rfl) (hy:ev L (stY o)=.agg vs.toArray:=by kernel_rfl):wpList P ops Q (o::rest) a w:=by
 unfold okStR at hB
 simp only[Bool.and_eq_true] at hB
 obtain⟨⟨⟨h1,h2⟩,h3⟩,h4⟩:=hB
 split at h1
 ·rename_i h1'
  split at h4
  ·rename_i t x y he
   have hx':ev L x=Pa ((⟨g,0,none⟩:Addr).add (it.toNat*sz)):=by simpa [stX,he] using hx
   have hy':ev L y=.agg vs.toArray:=by simpa [stY,he] using hy
   exact W_rowstoreN hf hp hv0 h1' h2 (by simpa using h3) he hx' hy' hv h4 hfs hg hcs λcs' w' hp' hr' a' ha=>hk cs' w' (by rw[List.length_set] at hp';exact hp') hr' List.length_set.symm a' ha
  cases h4
 cases h1
end
theorem Hp.objR {w0 w:World} {M:Mem} {H:List Ent} {b e:Nat} {cs:Array Value} (h:Hp w0 M (.obj b (.cells cs e (0,0))::H) w) (k sz:Nat) (hs:Nat.beq cs.size (k*sz)=true:=by kernel_rfl) (hm:Nat.ble k maxLen=true:=by rfl):
 Hp w0 M (.row e sz (.slice (some ⟨b,0,none⟩) k k) k cs.toList::H) w:=by
 have h1:=Nat.eq_of_beq_eq_true hs
 refine h.objRow (n:=k) (cap:=k) (Nat.le_refl _) (Nat.le_of_ble_eq_true hm) (yM (Nat.le_of_ble_eq_true hm) h1) ?_ (by rw[Array.length_toList,h1])
 rw[←h1,←Array.length_toList];exact List.take_length
theorem Hp.kr {w0 w:World} {M:Mem} {H H':List Ent} (h:Hp w0 M H w) (e:H=H':=by kernel_rfl):Hp w0 M H' w:=e▸h
section
variable {P:Program} {ops:Array Oper} {n:Nat} {Q:Exit→Act→World→Prop} {L:Fr} {a:Act} {w0 w:World} {M M1:Mem} {H Hr:List Ent} {l:List Oper} {ks:List Nat}
end
theorem Hp.sub {w0 w:World} {M:Mem} {H H':List Ent} (h:Hp w0 M H w) (s:H'.Sublist H):Hp w0 M H' w:=⟨h.below,h.mem,λx hx=>h.own x (s.subset hx),h.apart.sublist s,λx hx=>h.free x (s.subset hx)⟩
def zE (P:Program) (e:TypeId):Value:=match P.info? e with|some i=>i.zero.getD undef|none=>undef
section
variable {α:Type} {P:Program} {ops:Array Oper} {n:Nat} {Q:Exit→Act→World→Prop} {L:Fr} {a:Act} {w0 w:World} {M:Mem} {H:List Ent} {sz:Nat} {f:α→Dat}
end
end Go.Vc
end
section
namespace Go.Ck
open Go Go.Vc Go.RowKit
structure Z where
 A:Oa:=none
 c:Nat:=0
 k:Lv:=[]
 b:Nat:=0
 es:List Ent:=[]
 ad:Addr:=⟨0,0,none⟩
abbrev Zs:=Nat→Z
def Z.sl (z:Z) (n:Nat):Value:=.slice z.A n z.c
inductive Fa:Type 1
 |kn (base:Addr) (cs:Lv)
 |seq {α:Type} (sz:Nat) (f:α→Dat) (xs:List α) (cs:Lv)
 |sli {α:Type} (sz:Nat) (f:α→Dat) (A:Oa) (cap:Nat) (xs:List α)
 |ix (A:Oa) (i:Int) (len:Nat) (ad:Addr)
 |re (A:Oa) (b:Nat) (cs:Lv) (k:Nat) (c:Lv)
 |ko (b:Nat) (o:Obj)
 |bp (A:Oa) (b:Nat)
 |pm (φ:Mem→Prop)
 |ln (hs:Lv) (l m:Nat)
 |js (E:List Ent) (φ:Mem→List Ent→Prop)
 |hd (hs:Lv) (i:Nat) (v:Value)
abbrev _root_.rX (e s : Nat) (z : Z) {α : Type} (xs : List α) : Ent := .row e s (z.sl xs.length) xs.length z.k
abbrev _root_.wX (z : Z) {α : Type} (xs : List α) : Value := z.sl xs.length
abbrev _root_.sX (s : Nat) {α : Type} (f : α → Dat) (z : Z) (xs : List α) : Fa := .sli s f z.A z.c xs
abbrev _root_.qX (s : Nat) {α : Type} (f : α → Dat) (z : Z) (xs : List α) : Fa := .seq s f xs z.k
def Kn (M:Mem) (b:Addr) (cs:Lv):Prop:=∀j v,cs[j]? =some v→M.cell? (b.add j)=some v
def Fa.at (M:Mem):Fa→Prop|.kn b cs=>Kn M b cs|.seq sz f xs cs=>au M (xs.map f) cs∧∀x,Szd sz (f x)|.sli sz f A cap xs=>Sli M sz f A cap xs|.ix A i len ad=>A=some ad∧0≤i∧i<len|.re A b cs k c=>A=some ⟨b,0,none⟩∧∀j v,c[j]? =some v→cs[k+j]? =some v|.ko b o=>M b=some o|.bp A b=>A=none∨A=some ⟨b,0,none⟩|.pm φ=>∀M',M.le M'→φ M'|.ln hs l m=>hs.length=l∧l=m|.js E φ=>∀M',M.le M'→φ M' E|.hd hs i v=>hs[i]? =some v
theorem Kn.mo {M M':Mem} {b:Addr} {cs:Lv} (h:Kn M b cs) (hM:M.le M'):Kn M' b cs:=λj v e=>hM.cell (h j v e)
theorem Fa.mo: ∀ {φ:Fa} {M M':Mem},φ.at M→M.le M'→φ.at M'
 |.kn _ _,_,_,h,hM=>Kn.mo h hM
 |.seq _ _ _ _,_,_,h,hM=>⟨au.mono hM _ _ h.1,h.2⟩
 |.sli _ _ _ _ _,_,_,h,hM=>Sli.mono h hM
 |.ix _ _ _ _,_,_,h,_=>h
 |.re _ _ _ _ _,_,_,h,_=>h
 |.ko b o,_,_,h,hM=>hM b o h
 |.bp _ _,_,_,h,_=>h
 |.pm _,_,_,h,hM=>λM' h'=>h M' (hM.trans h')
 |.ln _ _ _,_,_,h,_=>h
 |.js _ _,_,_,h,hM=>λM' h'=>h M' (hM.trans h')
 |.hd _ _ _,_,_,h,_=>h
def kget {α:Type _} (k:Nat):List (Nat×α)→Option α|[]=>none|(j,x)::r=>bif Nat.beq j k then some x else kget k r
def kdel {α:Type _} (k:Nat):List (Nat×α)→List (Nat×α)|[]=>[]|(j,x)::r=>bif Nat.beq j k then r else(j,x)::kdel k r
def kput {α:Type _} (k:Nat) (y:α):List (Nat×α)→List (Nat×α)|[]=>[]|(j,x)::r=>bif Nat.beq j k then(j,y)::r else(j,x)::kput k y r
def kall {α:Type _} (ks:List Nat) (l:List (Nat×α)):List α:=ks.filterMap λk=>kget k l
abbrev Es:=List (Nat×Ent)
abbrev Fs:=List (Nat×Fa)
def vals {α:Type _} (l:List (Nat×α)):List α:=l.map (·.2)
def nums {α:Type _} (k:Nat):List α→List (Nat×α)|[]=>[]|x::r=>(k,x)::nums (k+1) r
theorem kB {α:Type _} {k:Nat} {x:α}: ∀ {l:List (Nat×α)},kget k l=some x→x∈vals l
 |[],h=>by cases h
 |(j,y)::r,h=>by
  unfold kget at h
  cases hb:Nat.beq j k with
  |true=>rw[hb] at h;cases h;exact List.mem_cons_self
  |false=>rw[hb] at h;exact List.mem_cons_of_mem _ (kB h)
theorem aW {α:Type _} {k:Nat} {x:α}: ∀ {l:List (Nat×α)},kget k l=some x→(vals l).Perm (x::vals (kdel k l))∧∀y,(vals (kput k y l)).Perm (y::vals (kdel k l))
 |[],h=>by cases h
 |(j,y)::r,h=>by
  unfold kget at h
  unfold kdel kput
  cases hb:Nat.beq j k with
  |true=>rw[hb] at h;cases h;exact⟨List.Perm.refl _,λ_=>List.Perm.refl _⟩
  |false=>
   rw[hb] at h
   obtain⟨h1,h2⟩:=aW (l:=r) h
   exact⟨(h1.cons y).trans (List.Perm.swap _ _ _),λz=>((h2 z).cons y).trans (List.Perm.swap _ _ _)⟩
theorem gb {α:Type _}: ∀ (k:Nat) (l:List α),vals (nums k l)=l
 |_,[]=>rfl
 |k,x::r=>congrArg (x:: ·) (gb (k+1) r)
def ktake {α:Type _}:List Nat→List (Nat×α)→List α×List (Nat×α)
 |[],l=>([],l)
 |k::ks,l=>match kget k l with
  |some x=>let r:=ktake ks (kdel k l); (x::r.1,r.2)
  |none=>([],l)
theorem lF {α:Type _}: ∀ (ks:List Nat) (l:List (Nat×α)),(vals l).Perm ((ktake ks l).1++vals (ktake ks l).2)
 |[],l=>List.Perm.refl _
 |k::ks,l=>by
  unfold ktake
  split
  ·rename_i x e
   exact(aW e).1.trans ((lF ks _).cons x)
  exact List.Perm.refl _
def Fh (M:Mem) (F:List Fa):Prop:=∀φ∈F,φ.at M
section
variable {M M':Mem} {F G:List Fa} {φ:Fa}
theorem Fh.mo (h:Fh M F) (hM:M.le M'):Fh M' F:=λφ hφ=>Fa.mo (h φ hφ) hM
theorem Fh.app (h:Fh M F) (h':Fh M G):Fh M (F++G):=λφ hφ=>(List.mem_append.1 hφ).elim (h φ) (h' φ)
theorem Fh.l (h:Fh M (F++G)):Fh M F:=λφ hφ=>h φ (List.mem_append_left _ hφ)
theorem Fh.r (h:Fh M (F++G)):Fh M G:=λφ hφ=>h φ (List.mem_append_right _ hφ)
theorem Fh.sli {α:Type} {sz:Nat} {f:α→Dat} {A:Oa} {c:Nat} {xs:List α} (h:Fh M F) (hm:Fa.sli sz f A c xs∈F):Sli M sz f A c xs:=h _ hm
theorem Fh.seq {α:Type} {sz:Nat} {f:α→Dat} {cs:Lv} {xs:List α} (h:Fh M F) (hm:Fa.seq sz f xs cs∈F):au M (xs.map f) cs:=(h _ hm).1
theorem Fh.nil:Fh M []:=λ_ h=>nomatch h
theorem Fh.one (h:φ.at M):Fh M [φ]:=λψ hψ=>by rw[List.mem_singleton.1 hψ];exact h
theorem Fh.cons (h:φ.at M) (h':Fh M F):Fh M (φ::F):=(Fh.one h).app h'
theorem Fh.kget {F:Fs} {i:Nat} (h:Fh M (vals F)) (e:kget i F=some φ):φ.at M:=h φ (kB e)
theorem Fh.kall {F:Fs} (is:List Nat) (h:Fh M (vals F)):Fh M (kall is F):=λφ hφ=>by
 obtain⟨i,_,e⟩:=List.mem_filterMap.1 hφ
 exact h.kget e
end
inductive T:Type 1
 |done
 |no
 |ok (b:Bool) (t:T)
 |eq {α:Type} (a b:α) (t:T)
 |eqF (a b:List Fa) (t:T)
 |and (s t:T)
 |all {α:Type} (f:α→T)
def T.holds:T→Prop|.done=>True|.no=>False|.ok b t=>b=true∧t.holds|.eq a b t=>a=b∧t.holds|.eqF a b t=>a=b∧t.holds|.and s t=>s.holds∧t.holds|.all f=>∀x,(f x).holds
def T.diag:T→T|.done=>.done|.no=>.done|.ok _ t=>.ok true t.diag|.eq a _ t=>.eq a a t.diag|.eqF a _ t=>.eqF a a t.diag|.and s t=>.and s.diag t.diag|.all f=>.all λx=>(f x).diag
theorem T.diag_holds: ∀t:T,t.diag.holds
 |.done=>trivial
 |.no=>trivial
 |.ok _ t=>⟨rfl,t.diag_holds⟩
 |.eq _ _ t=>⟨rfl,t.diag_holds⟩
 |.eqF _ _ t=>⟨rfl,t.diag_holds⟩
 |.and s t=>⟨s.diag_holds,t.diag_holds⟩
 |.all f=>λx=>(f x).diag_holds
theorem T.chk {t:T} (h:t=t.diag):t.holds:=by rw[h];exact t.diag_holds
inductive Kt
 |seq (c:Code)
 |blk (i:Nat)
 |mark
inductive Foc
 |code (c:Code) (ks:List Kt)
 |ops (xs:Array Oper) (os:List Oper) (ks:List Kt)
 |ex (e:Exit) (ks:List Kt)
def den (ro:Option Nat) (P:Program) (B:Exit→Act→World→Prop):List Kt→Exit→Act→World→Prop|[]=>B|.seq c::ks=>Exit.then (c.wr ro P (den ro P B ks)) (den ro P B ks)|.blk i::ks=>Exit.inBlock i (den ro P B ks)|.mark::ks=>den ro P B ks
def Foc.goal (ro:Option Nat) (P:Program) (B:Exit→Act→World→Prop):Foc→Act→World→Prop|.code c ks,a,w=>c.wr ro P (den ro P B ks) a w|.ops xs os ks,a,w=>wpList P xs (den ro P B ks) os a w|.ex e ks,a,w=>den ro P B ks e a w
def stp (rd:Bool):Foc→Option Foc|.code (.seq x y) ks=>some (.code x (.seq y::ks))|.code (.block i x) ks=>some (.code x (.blk i::ks))|.code (.region _ ops false) ks=>bif !rd||noDefer ops.toList then some (.ops ops ops.toList ks) else none|.code .skip ks=>some (.ex .normal ks)|.code (.exit i) ks=>some (.ex (.exit i) ks)|.code .ret ks=>some (.ex .ret ks)|.ops _ [] ks=>some (.ex .normal ks)|.ex .normal (.seq c::ks)=>some (.code c ks)|.ex .normal (.blk _::ks)=>some (.ex .normal ks)|.ex (.exit j) (.seq _::ks)=>some (.ex (.exit j) ks)|.ex (.exit j) (.blk i::ks)=>some (bif Nat.beq j i then .ex .normal ks else .ex (.exit j) ks)|.ex .ret (.seq _::ks)=>some (.ex .ret ks)|.ex .ret (.blk _::ks)=>some (.ex .ret ks)|.ex (.panic ch) (.seq _::ks)=>some (.ex (.panic ch) ks)|.ex (.panic ch) (.blk _::ks)=>some (.ex (.panic ch) ks)|_=>none
theorem RI_in {P:Program} {Q:Exit→Act→World→Prop} {a:Act} {w:World} {c:Code} (h:c.wp P Q a w):c.wr none P Q a w:=wpIn_wide.2 h
section
variable {P:Program} {B:Exit→Act→World→Prop} {ro:Option Nat}
theorem sT (h: ¬LetsOut B): ∀ks,¬LetsOut (den ro P B ks)
 |[]=>h
 |.seq _::ks=>then_out (sT h ks)
 |.blk _::ks=>block_out (sT h ks)
 |.mark::ks=>sT h ks
theorem stp_ok (lo:ro.isSome=true→¬LetsOut B) {f f':Foc} {a:Act} {w:World} (e:stp ro.isSome f=some f') (h:f'.goal ro P B a w):f.goal ro P B a w:=by
 unfold stp at e
 split at e<;>first|(cases e;done)|skip
 rotate_left 2
 ·rename_i id ops ks
  cases hb: (!ro.isSome||noDefer ops.toList) with
  |false=>rw[hb] at e;cases e
  |true=>
   rw[hb] at e
   obtain rfl:=Option.some.inj e
   cases ro with
   |none=>exact RI_in (wp_region_list h)
   |some l=>exact RI_reg (sT (lo rfl) ks) (by simpa using hb) h
 rotate_right 2
 all_goals simp only[Option.some.injEq] at e
 all_goals subst e
 ·exact RI_seq h
 ·exact RI_block h
 ·exact RI_skip h
 ·exact RI_exit h
 ·exact RI_ret h
 ·exact h
 ·exact h
 ·exact h
 ·exact h
 ·rename_i j i ks
  show Exit.inBlock i (den ro P B ks) (.exit j) a w
  cases hb:Nat.beq j i with
  |true=>rw[hb] at h;obtain rfl:=Nat.eq_of_beq_eq_true hb;exact B_x (Q:=den ro P B ks) h
  |false=>rw[hb] at h;exact B_o (Q:=den ro P B ks) hb h
 ·exact h
 ·exact h
 ·exact h
 exact h
end
theorem _root_.Go.Vc.Hp.noB {w0 w:World} {M:Mem} {X B H:List Ent} (h:Hp w0 M (X++(B++H)) w):Hp w0 M (X++H) w:=h.sub ((List.Sublist.refl _).append (List.sublist_append_right _ _))
structure St where
 L:Fr:=[]
 E:Es:=[]
 F:Fs:=[]
 D:List Deferred:=[]
 B:List Ent:=[]
def St.put (s:St) (d:Nat) (v:Value):St:={s with L:=(d,v)::s.L}
structure Cn where
 w0:World
 M0:Mem
 H:List Ent
 B:Exit→Act→World→Prop
 ro:Option Nat
 lo:ro.isSome=true→¬LetsOut B
abbrev Cn.rd (c:Cn):Bool:=c.ro.isSome
theorem nolo {B:Exit→Act→World→Prop}: (none:Option Nat).isSome=true→¬LetsOut B:=λh=>nomatch h
variable (n:Nat)
def At (c:Cn) (s:St) (G:Act→World→Prop):Prop:=∀M a w,c.M0.le M→Frm n s.L a s.D→Hp c.w0 M (vals s.E++(s.B++c.H)) w→Fh M (vals s.F)→G a w
abbrev Sat (P:Program) (n:Nat) (c:Cn) (f:Foc) (s:St):Prop:=At n c s (f.goal c.ro P c.B)
structure Vq (P:Program) where
 v:St→Oper→Value
 ck:St→Oper→T
 ok: ∀s o,(ck s o).holds→∀ {w0 M H w},Hp w0 M (vals s.E++H) w→Fh M (vals s.F)→(execOp (ev s.L) o).run P w=.ok (.value (v s o)) w
structure Lo (P:Program) (n:Nat) where
 ck:Array Oper→St→Oper→(St→T)→(Exit→St→T)→T
 ok: ∀ (c:Cn) (ops:Array Oper) (Q:Exit→Act→World→Prop) (s:St) (o:Oper) (rest:List Oper) (k:St→T) (kx:Exit→St→T),(ck ops s o k kx).holds→
  (∀s',(k s').holds→At n c s' (wpList P ops Q rest))→(∀e s',(kx e s').holds→At n c s' (Q e))→At n c s (wpList P ops Q (o::rest))
structure Im (n:Nat) where
 ck:St→(St→T)→T
 ok: ∀ (c:Cn) (s:St) (k:St→T) (G:Act→World→Prop),(ck s k).holds→(∀s',(k s').holds→At n c s' G)→At n c s G
structure Rw where
 {v v':Value}
 h:v=v'
inductive D (P:Program) (n:Nat):Type 1
 |rw(b:Bool) (t:Nat) {v v':Value} (h:v=v')
 |im (x:Im n)
 |cd (b:Bool)
 |wt (t:Nat)
 |ch (cs:List Nat) (rws:List (Nat×Rw))
 |q (x:Vq P)
 |l (x:Lo P n)
def sil (P:Program) (o:Oper):Bool:=match o.op with
 |.move _|.assign _|.pick _ _ _|.build _ _|.field _ _ _|.fieldAddr _ _ _|.extract _ _|.unOp _ _ _|.makeFunc _ _ _|.nilCheck _=>true
 |.binOp op t _ _ _=>(match op,P.underlying t with
  |.rem,_|.quo,_|.add,some .string|.eql,some (.struct _)|.neq,some (.struct _)|.eql,some (.array _ _)|.neq,some (.array _ _)=>false
  |_,_=>true)
 |.convert _ t _=>match P.underlying t with
  |some (.int _)=>true
  |_=>false
 |.call c=>match c.callee with
  |.builtin .len=>(match P.underlying (c.argTypes[0]?.getD 0) with
   |some (.map _ _)=>false
   |_=>true)
  |_=>false
 |_=>false
def wd:World:=default
def runV (P:Program) (L:Fr) (o:Oper):Value:=match (execOp (ev L) o).run P wd with|.ok (.value v) _=>v|_=>undef
def strL:Value→Bs|.string s=>s.data.toList|_=>[]
def isStr:Value→Bool|.string _=>true|_=>false
def cmpS (op:BinOp) (l m:Bs):Option Bool:=match op with|.eql=>some (decide (l=m))|.neq=>some (!decide (l=m))|.lss=>some (Op.bytesLess l m)|.gtr=>some (!(Op.bytesLess l m||l==m))|.leq=>some (Op.bytesLess l m||l==m)|.geq=>some (!(Op.bytesLess l m))|_=>none
def silV (P:Program) (L:Fr) (o:Oper):Value:=match o.op with|.binOp op _ x y _=>bif isStr (ev L x) then match cmpS op (strL (ev L x)) (strL (ev L y)) with|some b=>.bool b|none=>undef else runV P L o|_=>runV P L o
def silT (P:Program) (L:Fr) (o:Oper):T:=match o.op with|.binOp op _ x y _=>bif isStr (ev L x) then match cmpS op (strL (ev L x)) (strL (ev L y)) with|some _=>.eq (ev L x) (S (strL (ev L x))) (.eq (ev L y) (S (strL (ev L y))) .done)|none=>.no else .all λw=>.eq ((execOp (ev L) o).run P w) (.ok (.value (runV P L o)) w) .done|_=>.all λw=>.eq ((execOp (ev L) o).run P w) (.ok (.value (runV P L o)) w) .done
theorem sil_ok {P:Program} {L:Fr} {o:Oper} (h: (silT P L o).holds) (w:World): (execOp (ev L) o).run P w=.ok (.value (silV P L o)) w:=by
 unfold silT at h
 unfold silV
 split at h
 ·rename_i op t x y t' e
  cases hb:isStr (ev L x) with
  |false=>rw[hb] at h;exact(h w).1
  |true=>
   rw[hb,cond_true] at h
   rw[cond_true]
   cases op<;>simp only[cmpS] at h ⊢ <;>try exact h.elim
   ·exact X_streq e h.1 h.2.1
   ·exact X_strne e h.1 h.2.1
   ·exact X_strlt e h.1 h.2.1
   ·exact X_strle e h.1 h.2.1
   ·exact X_strgt e h.1 h.2.1
   exact X_strge e h.1 h.2.1
 exact(h w).1
structure Out where
 is:List Nat:=[]
 js:List Nat:=[]
 rk:List Nat:=[]
def zF:Option Fa→Z|some (.sli _ _ A c _)=>{A:=A,c:=c}|some (.kn b _)=>{ad:=b}|some (.ix _ _ _ ad)=>{ad:=ad}|some (.re _ b _ _ _)=>{b:=b}|some (.ko b _)=>{b:=b}|some (.bp A b)=>{A:=A,b:=b}|some (.ln hs _ _)=>{k:=hs}|some (.js E _)=>{es:=E}|_=>{}
def zE:Option Ent→Z|some (.row _ _ (.slice A _ c) _ cs)=>{A:=A,c:=c,k:=cs}|some (.obj b _)=>{b:=b}|_=>{}
def nthZ:List Z→Nat→Z|[],_=>{}|z::_,0=>z|_::r,k+1=>nthZ r k
def zsOf (s:St) (is js:List Nat):Zs:=nthZ (is.map (λi=>zF (kget i s.F))++js.map (λj=>zE (kget j s.E)))
def Out.zs (o:Out) (s:St):Zs:=zsOf s o.is o.js
structure W (P:Program) (n:Nat) {ρ:Type} (g:Option ρ) where
 ck:Bool→(ρ→Out→Foc→St→T)→Foc→St→T
 ok: ∀ (c:Cn) (fin:ρ→Out→Foc→St→T) (r:ρ) (_:g=some r) (f:Foc) (s:St),(ck c.rd fin f s).holds→(∀o f' s',(fin r o f' s').holds→Sat P n c f' s')→Sat P n c f s
variable {P:Program} {n:Nat} {ρ:Type}
def putR (rws:List (Nat×Rw)) (s:St) (d:Nat) (v:Value) (k:St→T):T:=match kget d rws with|some r=>.eq v r.v (k (s.put d r.v'))|none=>k (s.put d v)
def isQ:Option (D P n)→Bool|some (.q _)=>true|_=>false
def quietB (ops:Array Oper) (ds:List (Nat×D P n)) (listed:Array Bool) (s:St) (j:Nat):Bool:=match ops[j]? with|some o=>(match bv ops s.L o with|some false=>true|some true=>sil P o||isQ (kget j ds)|none=>false)&&Region.free .any ops listed j|none=>false
def regQ (ops:Array Oper) (ds:List (Nat×D P n)) (rws:List (Nat×Rw)) (E0:Es) (F0:Fs) (rec:St→T) (s:St) (o:Oper) (j:Nat):T:=match bv ops s.L o with|some false=>(match o.dst with|some d=>.ok (Nat.blt d n) (rec (s.put d undef))|none=>rec s)|some true=>bif sil P o then .ok (okO ops n s.L o) (.and (silT P s.L o) (putR rws s (dstO o) (silV P s.L o) rec)) else(match kget j ds with|some (.q x)=>.ok (okO ops n s.L o) (.and (x.ck {s with E:=E0,F:=F0} o) (putR rws s (dstO o) (x.v {s with E:=E0,F:=F0} o) rec))|_=>.no)|none=>.no
def regL (ops:Array Oper) (ds:List (Nat×D P n)) (E0:Es) (finx:Exit→St→T) (rec:St→T) (s:St) (o:Oper) (j:Nat):T:=match kget j ds with|some (.l x)=>x.ck ops {s with E:=s.E++E0} o (λs'=>.eq s'.B [] (.eq (ktake (E0.map (·.1)) s'.E).1 (vals E0) (rec {s' with E:=(ktake (E0.map (·.1)) s'.E).2}))) (λe s'=>match e with|.panic ch=>finx (.panic ch) {s' with L:=[]}|_=>.no)|_=>.no
def andZ:List Nat→(Nat→T)→T|[],_=>.done|j::js,f=>.and (f j) (andZ js f)
def reg (ops:Array Oper) (ds:List (Nat×D P n)) (rws:List (Nat×Rw)) (E0:Es) (F0:Fs) (fin:St→T) (finx:Exit→St→T):Nat→Array Bool→St→T|0,listed,s=>.ok (Region.ready .any ops listed).isEmpty (fin {s with E:=s.E++E0})|k+1,listed,s=>match Region.ready .any ops listed with|[]=>fin {s with E:=s.E++E0}|j::js=>match (j::js).find? (quietB ops ds listed s) with|some q=>(match ops[q]? with|some o=>.ok (Region.free .any ops listed q) (.ok ((Region.ready .any ops listed).contains q) (regQ ops ds rws E0 F0 (reg ops ds rws E0 F0 fin finx k (listed.setIfInBounds q true)) s o q))|none=>.no)|none=>andZ (j::js) λq=>match ops[q]? with|some o=>regL ops ds E0 finx (reg ops ds rws E0 F0 fin finx k (listed.setIfInBounds q true)) s o q|none=>.no
section
variable {w0:World} {M:Mem} {Hc:List Ent} {Q:Exit→Act→World→Prop} {ops:Array Oper} {ds:List (Nat×D P n)} {rws:List (Nat×Rw)} {E0:Es} {F0:Fs}
def RG (P:Program) (n:Nat) (w0:World) (M:Mem) (Hc:List Ent) (Q:Exit→Act→World→Prop) (ops:Array Oper) (E0:Es) (k:Nat) (listed:Array Bool) (s:St):Prop:=s.B=[]→∀M1 a,M.le M1→Frm n s.L a s.D→Fh M1 (vals s.F)→wpAnyI P .any ops Q (Cla w0 M (vals E0++Hc)) k listed a (M1,vals s.E)
theorem putR_ok {s:St} {d:Nat} {v:Value} {k:St→T} (h: (putR rws s d v k).holds): ∃s',s'.E=s.E∧s'.F=s.F∧s'.D=s.D∧s'.L=(d,v)::s.L∧(s.B=[]→s'.B=[])∧(k s').holds:=by
 unfold putR at h
 split at h
 ·rename_i r e
  obtain⟨rfl,h⟩:=h
  exact⟨s.put d r.v',rfl,rfl,rfl,by show(d,r.v')::s.L=(d,r.v)::s.L;rw[r.h],id,h⟩
 exact⟨s.put d v,rfl,rfl,rfl,rfl,id,h⟩
theorem regQ_ok {rec:St→T} {k:Nat} {listed:Array Bool} {s:St} {o:Oper} {j:Nat} (hsel: ∀ (j:Nat) (o:Oper) cs b,ops[j]? =some o→o.op≠ .select cs b) (hF0:Fh M (vals F0)) (ho:ops[j]? =some o)
 (hrec: ∀s,(rec s).holds→RG P n w0 M Hc Q ops E0 k (listed.setIfInBounds j true) s) (hfree:Region.free .any ops listed j=true) (hin:j∈Region.ready .any ops listed) (h: (regQ ops ds rws E0 F0 rec s o j).holds):RG P n w0 M Hc Q ops E0 (k+1) listed s:=by
 intro hB0 M1 a hM hf hF
 unfold regQ at h
 split at h
 ·rename_i hw
  split at h
  ·rename_i d hd
   obtain⟨h1,h2⟩:=h
   refine ur ho hsel k listed a _ (Region.free_spec ho hfree) hin (v:=undef) (.inr ⟨hf.wanted hw,rfl⟩) ?_
   rw[hd]
   exact hrec _ h2 hB0 M1 _ hM (hf.put (by simpa [Nat.blt_eq] using h1) undef) hF
  rename_i hd
  refine ur ho hsel k listed a _ (Region.free_spec ho hfree) hin (v:=undef) (.inr ⟨hf.wanted hw,rfl⟩) ?_
  rw[hd]
  exact hrec _ h hB0 M1 _ hM hf hF
 ·rename_i hw
  have key: ∀v,okO ops n s.L o=true→(∀w,(∃i,Cla w0 M (vals E0++Hc) i w)→(execOp (ev s.L) o).run P w=.ok (.value v) w)→(putR rws s (dstO o) v rec).holds→wpAnyI P .any ops Q (Cla w0 M (vals E0++Hc)) (k+1) listed a (M1,vals s.E):=λv hB hx hp=>by
   obtain⟨h1,h2,h3,h4⟩:=kC hB
   obtain⟨s',e1,e2,e4,e3,eB,h5⟩:=putR_ok hp
   refine ur ho hsel k listed a _ (Region.free_spec ho hfree) hin (v:=v) (.inl ⟨hf.wanted hw,λi w hC=>?_⟩) ?_
   ·unfold Oper.quietAt
    rw[hf.exec h2,hx w ⟨i,hC⟩]
    exact⟨rfl,rfl⟩
   rw[h3,←e1]
   exact hrec _ h5 (eB hB0) M1 _ hM (by rw[e3,e4];exact hf.put (by simpa [Nat.blt_eq] using h4) v) (by rw[e2];exact hF)
  cases hs:sil P o with
  |true=>
   rw[hs,cond_true] at h
   obtain⟨h1,h2,h3⟩:=h
   exact key _ h1 (λw _=>sil_ok h2 w) h3
  |false=>
   rw[hs,cond_false] at h
   split at h
   ·rename_i x _
    obtain⟨h1,h2,h3⟩:=h
    refine key _ h1 (λw ⟨i,hC⟩=>?_) h3
    have hp:Hp w0 i.1 (vals E0++(i.2++Hc)) w:=hC.2.perm (by
     rw[←List.append_assoc,←List.append_assoc];exact List.perm_append_comm.append_right _)
    exact x.ok {s with E:=E0,F:=F0} o h2 hp (hF0.mo hC.1)
   exact h.elim
 exact h.elim
theorem regL_ok {c:Cn} {finx:Exit→St→T} {rec:St→T} {k:Nat} {listed:Array Bool} {s:St} {o:Oper} {j:Nat} (ho:ops[j]? =some o) (hw0:c.w0=w0) (hHc:c.H=Hc) (hcM:c.M0.le M)
 (hx: ∀e s',(finx e s').holds→At n c s' (Q e)) (hrec: ∀s,(rec s).holds→RG P n w0 M Hc Q ops E0 k (listed.setIfInBounds j true) s) (h: (regL ops ds E0 finx rec s o j).holds) (hB:s.B=[]) {M1:Mem} {a:Act} {w:World} (hM:M.le M1) (hf:Frm n s.L a s.D) (hF:Fh M1 (vals s.F)) (hp:Hp w0 M1 (vals s.E++(vals E0++Hc)) w):
 wpOp P ops (noPan Q) j (λa' w'=>∃i',Cla w0 M (vals E0++Hc) i' w'∧wpAnyI P .any ops Q (Cla w0 M (vals E0++Hc)) k (listed.setIfInBounds j true) a' i') a w:=by
 unfold regL at h
 split at h
 ·rename_i x _
  have h3:=x.ok ⟨w0,M1,Hc,c.B,c.ro,c.lo⟩ ops (mixQ Q λa' w'=>∃i',Cla w0 M (vals E0++Hc) i' w'∧wpAnyI P .any ops Q (Cla w0 M (vals E0++Hc)) k (listed.setIfInBounds j true) a' i') {s with E:=s.E++E0} o [] _ _ h (λs' ⟨e0,e1,h'⟩=>?_) (λe s' h'=>?_) M1 a w (Mem.le_refl M1) hf (by show Hp w0 M1 (vals (s.E++E0)++(s.B++Hc)) w;rw[hB,List.nil_append,show vals (s.E++E0)=vals s.E++vals E0 from List.map_append ..,List.append_assoc];exact hp) hF
  ·simp only[wpList] at h3
   unfold wpOp
   simp only[ho]
   have mono: ∀a' w',(mixQ Q (λa' w'=>∃i',Cla w0 M (vals E0++Hc) i' w'∧wpAnyI P .any ops Q (Cla w0 M (vals E0++Hc)) k (listed.setIfInBounds j true) a' i') .normal a' w')→∃i',Cla w0 M (vals E0++Hc) i' w'∧wpAnyI P .any ops Q (Cla w0 M (vals E0++Hc)) k (listed.setIfInBounds j true) a' i':=λa' w' h=>h
   split
   ·rename_i hw'
    simp only[hw',if_true] at h3
    rcases h3 with h3|⟨h3,h4⟩
    ·exact .inl (Oper.wp_mono mono (Oper.wp_mixQ h3))
    exact .inr ⟨h3,letsOut_mixQ h4⟩
   rename_i hw'
   simp only[hw'] at h3
   exact mono _ _ h3
  ·intro M2 a2 w2 g1 g2 g3 g4
   show ∃i',_∧_
   refine⟨(M2,vals (ktake (E0.map (·.1)) s'.E).2),⟨hM.trans g1,?_⟩,hrec _ h' e0 M2 a2 (hM.trans g1) g2 g4⟩
   rw[e0,List.nil_append] at g3
   refine g3.perm ?_
   rw[←List.append_assoc]
   refine List.Perm.append_right _ ((lF (E0.map (·.1)) s'.E).trans ?_)
   rw[e1]
   exact List.perm_append_comm
  intro M2 a2 w2 g1 g2 g3 g4
  split at h'
  ·intro a' i1 i2
   refine hx _ _ h' M2 a' w2 (hcM.trans (hM.trans g1)) ⟨i1.trans g2.size,i2.trans g2.defers,λt v hv=>by cases hv⟩ ?_ g4
   rw[hw0,hHc];exact g3
  exact h'.elim
 exact h.elim
theorem andZ_ok {f:Nat→T}: ∀ {js:List Nat},(andZ js f).holds→∀j∈js,(f j).holds
 |[],_,j,hj=>nomatch hj
 |k::js,h,j,hj=>by
  rcases List.mem_cons.1 hj with rfl|hj
  ·exact h.1
  exact andZ_ok h.2 j hj
theorem reg_ok {c:Cn} {fin:St→T} {finx:Exit→St→T} (hsel: ∀ (j:Nat) (o:Oper) cs b,ops[j]? =some o→o.op≠ .select cs b) (hF0:Fh M (vals F0)) (hw0:c.w0=w0) (hHc:c.H=Hc) (hcM:c.M0.le M)
 (hx: ∀e s',(finx e s').holds→At n c s' (Q e)) (hfin: ∀s',(fin s').holds→At n c s' (Q .normal)): ∀ (k:Nat) (listed:Array Bool) (s:St),(reg ops ds rws E0 F0 fin finx k listed s).holds→RG P n w0 M Hc Q ops E0 k listed s:=by
 have last: ∀ (s:St),(fin {s with E:=s.E++E0}).holds→s.B=[]→∀M1 a,M.le M1→Frm n s.L a s.D→Fh M1 (vals s.F)→∀w,Cla w0 M (vals E0++Hc) (M1,vals s.E) w→Q .normal a w:=λs h hB M1 a hM hf hF w hC=>
  hfin _ h M1 a w (hcM.trans hM) hf (by
   show Hp c.w0 M1 (vals (s.E++E0)++(s.B++c.H)) w
   rw[hB,List.nil_append,hw0,hHc,show vals (s.E++E0)=vals s.E++vals E0 from List.map_append ..,List.append_assoc];exact hC.2) hF
 intro k
 induction k with
 |zero=>
  intro listed s h hB M1 a hM hf hF
  unfold reg at h
  exact⟨List.isEmpty_iff.1 h.1,last s h.2 hB M1 a hM hf hF⟩
 |succ k ih=>
  intro listed s h
  unfold reg at h
  split at h
  ·rename_i e
   intro hB M1 a hM hf hF
   exact⟨λ_=>last s h hB M1 a hM hf hF,λw _ j hj=>by rw[e] at hj;cases hj⟩
  rename_i j js e
  split at h
  ·split at h
   ·rename_i q _ o ho
    obtain⟨h1,h2,h3⟩:=h
    exact regQ_ok hsel hF0 ho (λs' h'=>ih _ s' h') h1 (by simpa using h2) h3
   exact h.elim
  intro hB M1 a hM hf hF
  refine⟨λh0=>(by rw[h0] at e;cases e),λw hC q hq=>?_⟩
  have h':=andZ_ok h q (by rw[←e];exact hq)
  split at h'
  ·rename_i o ho
   exact regL_ok ho hw0 hHc hcM hx (λs' h'=>ih _ s' h') h' hB hM hf hF hC.2
  exact h'.elim
end
def loudI (P:Program) (ops:Array Oper):List Nat:=(List.range ops.size).filter λi=>match ops[i]? with|some o=> !sil P o|none=>false
def zipK {α:Type _}:List Nat→List α→List (Nat×α)|k::ks,x::xs=>(k,x)::zipK ks xs|_,_=>[]
def regC (rd:Bool) (cs:List Nat) (rws:List (Nat×Rw)) (ops:Array Oper) (ds:List (D P n)) (s:St) (fin:St→T) (finx:Exit→St→T):T:=.ok (P.follows .mixedOrders&&Region.noSelect ops) (.ok (!rd||noDefer ops.toList) (reg ops (zipK (loudI P ops) ds) rws (s.E.filter λp=> !cs.contains p.1) s.F (λs'=>fin {s' with B:=s.B}) (λe s'=>finx e {s' with B:=s.B}) ops.size (Array.replicate ops.size false) {s with E:=s.E.filter λp=>cs.contains p.1,B:=[]}))
theorem reg_wp {c:Cn} {fin:St→T} {finx:Exit→St→T} {Q:Exit→Act→World→Prop} {ops:Array Oper} {ds:List (D P n)} {cs:List Nat} {rws:List (Nat×Rw)} {id:Nat} {s:St} (lo:c.ro.isSome=true→¬LetsOut Q) (hx: ∀e s',(finx e s').holds→At n c s' (Q e)) (hfin: ∀s',(fin s').holds→At n c s' (Q .normal)) (h: (regC (P:=P) (n:=n) c.rd cs rws ops ds s fin finx).holds):At n c s ((Code.region id ops true).wr c.ro P Q):=by
 obtain⟨h1,h0,h2⟩:=h
 obtain⟨hm,hs⟩:=Bool.and_eq_true_iff.1 h1
 intro M a w hM hf hp hF
 have hR:=reg_ok (M:=M) (c:=⟨c.w0,c.M0,s.B++c.H,c.B,c.ro,c.lo⟩) (Hc:=s.B++c.H) (w0:=c.w0) (Region.noSelect_spec hs) hF rfl rfl hM (λe s' h M a w g1 g2 g3 g4=>hx e {s' with B:=s.B} h M a w g1 g2 g3.noB g4) (λs' h M a w g1 g2 g3 g4=>hfin {s' with B:=s.B} h M a w g1 g2 g3.noB g4) _ _ _ h2 rfl M a (Mem.le_refl M) hf hF
 have key:wpAny P .any ops (noPan Q) ops.size (Array.replicate ops.size false) a {w with drawn:=w.drawn+1}:=by
  refine aAg _ _ a _ _ ?_ hR
  refine⟨Mem.le_refl M,Hp.drew (hp.perm ?_)⟩
  show(vals s.E++(s.B++c.H)).Perm (vals (s.E.filter λp=>cs.contains p.1)++(vals (s.E.filter λp=> !cs.contains p.1)++(s.B++c.H)))
  generalize s.B++c.H=X
  rw[←List.append_assoc]
  refine List.Perm.append_right _ ?_
  rw[show vals (s.E.filter λp=>cs.contains p.1)++vals (s.E.filter λp=> !cs.contains p.1)=vals (s.E.filter (λp=>cs.contains p.1)++s.E.filter (λp=> !cs.contains p.1)) from(List.map_append ..).symm]
  exact((List.filter_append_perm (λp=>cs.contains p.1) s.E).map _).symm
 cases hro:c.ro with
 |none=>exact RI_in (Code.wp_mono (λe a w h=>noPan_imp h) (wp_region_any hm key))
 |some l=>exact RI_mono (Q:=noPan Q) (Q':=Q) (RI_draw0 (Q:=noPan Q) (λ ⟨a,w,h'⟩=>lo (by rw[hro];rfl) ⟨a,w,h'⟩) (by have h0':=h0;unfold Cn.rd at h0';rw[hro] at h0';simpa using h0') hm key) (λe a w h=>noPan_imp h)
def go1 (P:Program) (n:Nat) (rd:Bool) (fin:Foc→St→T) (rec:List (D P n)→Foc→St→T) (ds:List (D P n)) (f:Foc) (s:St):T:=
 match stp rd f with
 |some f'=>rec ds f' s
 |none=>match f with
  |.ops ops (o::os) ks=>match bv ops s.L o with
   |some false=>(match o.dst with
    |some d=>.ok (Nat.blt d n) (rec ds (.ops ops os ks) (s.put d undef))
    |none=>rec ds (.ops ops os ks) s)
   |some true=>bif sil P o then .ok (okO ops n s.L o) (.and (silT P s.L o) (rec ds (.ops ops os ks) (s.put (dstO o) (silV P s.L o))))
    else(match ds with
     |.q x::ds'=>.ok (okO ops n s.L o) (.and (x.ck s o) (rec ds' (.ops ops os ks) (s.put (dstO o) (x.v s o))))
     |.l x::ds'=>x.ck ops s o (λs'=>rec ds' (.ops ops os ks) s') (λe s'=>rec ds' (.ex e ks) s')
     |[]=>fin f s
     |_=>.no)
   |none=>.no
  |.code (.cond o x y) ks=>(match ds with
   |.cd b::ds=>.ok (has s.L o) (.eq (ev s.L o) (.bool b) (rec ds (.code (bif b then x else y) ks) s))
   |[]=>fin f s
   |_=>.no)
  |.code (.region id ops true) ks=>(match ds with
   |.ch cs rws::ds=>regC rd cs rws ops ds s (rec (ds.drop (loudI P ops).length) (.ex .normal ks)) (λe=>rec (ds.drop (loudI P ops).length) (.ex e ks))
   |ds=>regC rd [] [] ops ds s (rec (ds.drop (loudI P ops).length) (.ex .normal ks)) (λe=>rec (ds.drop (loudI P ops).length) (.ex e ks)))
  |_=>match ds with
   |[]=>fin f s
   |_=>.no
theorem go1_ok {c:Cn} {fin:Foc→St→T} {rec:List (D P n)→Foc→St→T} (hr: ∀ds f s,(rec ds f s).holds→Sat P n c f s) (hf: ∀f s,(fin f s).holds→Sat P n c f s) {ds:List (D P n)} {f:Foc} {s:St}
 (h: (go1 P n c.rd fin rec ds f s).holds):Sat P n c f s:=by
 unfold go1 at h
 split at h
 ·rename_i f' e
  exact λM a w h1 h2 h3 h4=>stp_ok c.lo e (hr _ _ _ h M a w h1 h2 h3 h4)
 split at h
 ·rename_i ops o os ks _
  split at h
  ·rename_i hw
   split at h
   ·rename_i d hd
    obtain⟨h1,h2⟩:=h
    intro M a w g1 g2 g3 g4
    have hdn:d<n:=by simpa [Nat.blt_eq] using h1
    show wpList P ops (den c.ro P c.B ks) (o::os) a w
    simp only[wpList]
    rw[g2.wanted hw,hd]
    exact hr _ _ _ h2 M _ w g1 (g2.put hdn undef) g3 g4
   rename_i hd
   intro M a w g1 g2 g3 g4
   show wpList P ops (den c.ro P c.B ks) (o::os) a w
   simp only[wpList]
   rw[g2.wanted hw,hd]
   exact hr _ _ _ h M _ w g1 g2 g3 g4
  ·rename_i hw
   cases hs:sil P o with
   |true=>
    rw[hs,cond_true] at h
    obtain⟨h1,h2,h3⟩:=h
    intro M a w g1 g2 g3 g4
    exact ku g2 h1 (sil_ok h2 w) λa' g2'=>hr _ _ _ h3 M a' w g1 g2' g3 g4
   |false=>
    rw[hs,cond_false] at h
    split at h
    ·rename_i x ds'
     obtain⟨h1,h2,h3⟩:=h
     intro M a w g1 g2 g3 g4
     exact ku g2 h1 (x.ok s o h2 g3 g4) λa' g2'=>hr _ _ _ h3 M a' w g1 g2' g3 g4
    ·rename_i x ds'
     exact x.ok c ops (den c.ro P c.B ks) s o os _ _ h (λs' h'=>hr _ (.ops ops os ks) s' h') (λe s' h'=>hr _ (.ex e ks) s' h')
    ·exact hf _ _ h
    exact h.elim
  exact h.elim
 ·split at h
  ·rename_i b _
   obtain⟨h1,h2,h3⟩:=h
   intro M a w g1 g2 g3 g4
   cases b with
   |true=>exact RI_cond_t g2 h2 h1 (hr _ _ _ h3 M a w g1 g2 g3 g4)
   |false=>exact RI_cond_f g2 h2 h1 (hr _ _ _ h3 M a w g1 g2 g3 g4)
  ·exact hf _ _ h
  exact h.elim
 ·split at h
  ·exact reg_wp (λh=>sT (c.lo h) _) (λe s' h'=>hr _ (.ex e _) s' h') (λs' h'=>hr _ (.ex .normal _) s' h') h
  exact reg_wp (λh=>sT (c.lo h) _) (λe s' h'=>hr _ (.ex e _) s' h') (λs' h'=>hr _ (.ex .normal _) s' h') h
 split at h
 ·exact hf _ _ h
 exact h.elim
def top (s:St) (t:Nat):Bool:=match s.L with|(d,_)::_=>Nat.beq d t|[]=>false
inductive Sp
 |no
 |now
 |slot (t:Nat)
 |blk (i:Nat)
 |reg (i:Nat)
def stops (sp:Sp) (f:Foc):Bool:=match sp,f with|.now,_=>true|.slot t,.ops ops (o::_) _=>(match o.guard with|some (j,_)=>(match (ops[j]?).bind (·.dst) with|some d=>Nat.beq d t|none=>false)|none=>false)|.blk i,.code (.block j _) _=>Nat.beq i j|.reg i,.code (.region j _ _) _=>Nat.beq i j|_,_=>false
def go (P:Program) (n:Nat) (rd:Bool) (sp:Sp) (fin:Foc→St→T):Nat→List (D P n)→Foc→St→T|0,_,_,_=>.no|k+1,ds,f,s=>match ds with|[]=>bif stops sp f then fin f s else go1 P n rd fin (go P n rd sp fin k) [] f s|.rw b t (v:=v) (v':=v') _::ds'=>bif bif b then top s t else(Vc.look s.L t).isSome then .eq (Vc.look s.L t) (some v) (go P n rd sp fin k ds' f (s.put t v')) else go1 P n rd fin (go P n rd sp fin k) ds f s|.im x::ds'=>x.ck s λs'=>go P n rd sp fin k ds' f s'|.wt t::ds'=>bif top s t then go P n rd sp fin k ds' f s else go1 P n rd fin (go P n rd sp fin k) ds f s|_=>go1 P n rd fin (go P n rd sp fin k) ds f s
theorem mB {c:Cn} {sp:Sp} {fin:Foc→St→T} (hf: ∀f s,(fin f s).holds→Sat P n c f s): ∀ (k:Nat) (ds:List (D P n)) (f:Foc) (s:St),(go P n c.rd sp fin k ds f s).holds→Sat P n c f s
 |0,_,_,_,h=>h.elim
 |k+1,ds,f,s,h=>by
  unfold go at h
  have key: ∀ds,(go1 P n c.rd fin (go P n c.rd sp fin k) ds f s).holds→Sat P n c f s:=λds h=>go1_ok (λds f s h=>mB hf k ds f s h) hf h
  split at h
  ·cases hb:stops sp f with
   |true=>rw[hb] at h;exact hf _ _ h
   |false=>rw[hb] at h;exact key _ h
  ·rename_i b t v v' e ds'
   cases hb: (bif b then top s t else(Vc.look s.L t).isSome) with
   |true=>
    rw[hb] at h
    obtain⟨h1,h2⟩:=h
    intro M a w g1 g2 g3 g4
    exact mB hf k _ _ _ h2 M a w g1 (g2.set t h1 e) g3 g4
   |false=>rw[hb] at h;exact key _ h
  ·rename_i x ds'
   exact x.ok c s _ _ h λs' h'=>mB hf k ds' f s' h'
  ·rename_i t ds'
   cases hb:top s t with
   |true=>rw[hb] at h;exact mB hf k ds' f s h
   |false=>rw[hb] at h;exact key _ h
  exact key _ h
def brh (ds:List (D P n)) {c:Bool} {x y:Option ρ} (A:c=true→W P n x) (A':c=false→W P n y):W P n (bif c then x else y) where
 ck rd fin f s:=go P n rd .no (λf s=>match f with
  |.code (.cond o p q) ks=>.ok (has s.L o) (.eq (ev s.L o) (.bool c) (.and (.all λh:PLift (c=true)=>(A h.down).ck rd fin (.code p ks) s) (.all λh:PLift (c=false)=>(A' h.down).ck rd fin (.code q ks) s)))
  |_=>.no) 4000 ds f s
 ok cn fin r er f s h k:=by
  refine mB (λf s h=>?_) _ _ _ _ h
  split at h
  · rename_i o p q ks
    obtain⟨h1,h2,h3,h4⟩:=h
    intro M a w hM hf hp hF
    cases hc:c with
    |true=>rw[hc] at h2 er;exact RI_cond_t hf h2 h1 ((A hc).ok cn fin r er _ _ (h3 ⟨hc⟩) k M a w hM hf hp hF)
    |false=>rw[hc] at h2 er;exact RI_cond_f hf h2 h1 ((A' hc).ok cn fin r er _ _ (h4 ⟨hc⟩) k M a w hM hf hp hF)
  · exact h.elim
def bsh (ds:List (D P n)) (t:Nat) {c:Bool} {x y:Option ρ} (A:c=true→W P n x) (A':c=false→W P n y):W P n (bif c then x else y) where
 ck rd fin f s:=go P n rd (.slot t) (λf s=>.eq (Vc.look s.L t) (some (.bool c)) (.and (.all λh:PLift (c=true)=>(A h.down).ck rd fin f (s.put t (.bool true))) (.all λh:PLift (c=false)=>(A' h.down).ck rd fin f (s.put t (.bool false))))) 4000 ds f s
 ok cn fin r er f s h k:=by
  refine mB (λf s h=>?_) _ _ _ _ h
  obtain⟨h1,h2,h3⟩:=h
  intro M a w hM hf hp hF
  cases hc:c with
  |true=>rw[hc] at h1 er;exact(A hc).ok cn fin r er _ _ (h2 ⟨hc⟩) k M a w hM (hf.set t h1 rfl) hp hF
  |false=>rw[hc] at h1 er;exact(A' hc).ok cn fin r er _ _ (h3 ⟨hc⟩) k M a w hM (hf.set t h1 rfl) hp hF
def br (ds:List (D P n)) {c:Bool} {x y:Option ρ} (A:W P n x) (A':W P n y):W P n (bif c then x else y):=brh ds (λ_=>A) λ_=>A'
def bs (ds:List (D P n)) (t:Nat) {c:Bool} {x y:Option ρ} (A:W P n x) (A':W P n y):W P n (bif c then x else y):=bsh ds t (λ_=>A) λ_=>A'
def bh (sp:Sp) (ds:List (D P n)) {c:Bool} {x y:Option ρ} (A:c=true→W P n x) (A':c=false→W P n y):W P n (bif c then x else y) where
 ck rd fin f s:=go P n rd sp (λf s=>.and (.all λh:PLift (c=true)=>(A h.down).ck rd fin f s) (.all λh:PLift (c=false)=>(A' h.down).ck rd fin f s)) 4000 ds f s
 ok cn fin r er f s h k:=by
  refine mB (λf s h=>?_) _ _ _ _ h
  cases hc:c with
  |true=>rw[hc] at er;exact(A hc).ok cn fin r er _ _ (h.1 ⟨hc⟩) k
  |false=>rw[hc] at er;exact(A' hc).ok cn fin r er _ _ (h.2 ⟨hc⟩) k
def no:W P n (none:Option ρ):=⟨λ_ _ _ _=>.done,λ_ _ _ e=>nomatch e⟩
def ob {α:Type} {g:Option α} {kk:α→Option ρ} (W0: ∀x,g=some x→W P n (kk x)):W P n (g.bind kk) where
 ck rd fin f s:=.all λx=>.all λh:PLift (g=some x)=>(W0 x h.down).ck rd fin f s
 ok cn fin r er f s h k:=by
  obtain⟨x,hx,hr⟩:=Option.bind_eq_some_iff.1 er
  exact(W0 x hx).ok cn fin r hr f s (h x ⟨hx⟩) k
def nd {p:Prop} [Decidable p] {y:Option ρ} (W0:p→W P n y):W P n (ar p y) where
 ck rd fin f s:=.all λh:PLift p=>(W0 h.down).ck rd fin f s
 ok cn fin r er f s h k:=by
  obtain⟨hp,hr⟩:=eZ er
  exact(W0 hp).ok cn fin r hr f s (h ⟨hp⟩) k
def rt (ds:List (D P n)) {r:ρ} (o:Out:={}):W P n (some r) where
 ck rd fin f s:=go P n rd .no (λf s=>fin r o f s) 4000 ds f s
 ok cn fin r' e f s h k:=mB (λf s h=>k o f s (Option.some.inj e▸h)) _ _ _ _ h
def th (a b:D P n):D P n:=match a,b with
 |.l x,.im y=>.l {
  ck:=λops s o k kx=>x.ck ops s o (λs'=>y.ck s' k) kx
  ok:=λc ops Q s o rest k kx h hk hx=>x.ok c ops Q s o rest _ kx h (λs' h'=>y.ok c s' k _ h' hk) hx}
 |.im x,.im y=>.im {
  ck:=λs k=>x.ck s λs'=>y.ck s' k
  ok:=λc s k G h hk=>x.ok c s _ G h λs' h'=>y.ok c s' k G h' hk}
 |a,_=>a
def lo (a:D P n):D P n:=match a with
 |.q x=>.l {
  ck:=λops s o k _=>.ok (okO ops n s.L o) (.and (x.ck s o) (k {s with L:=(dstO o,x.v s o)::s.L}))
  ok:=λc ops Q s o rest k kx h hk _ M a w hM hf hp hF=>ku hf h.1 (x.ok s o h.2.1 hp hF) λa' hf'=>hk _ h.2.2 M a' w hM hf' hp hF}
 |a=>a
def sw (t:Nat) {v v':Value} (e:v=v'):D P n:=.rw true t e
def wr (t:Nat) {k:IntKind} {x:Int} (h:inR k x):D P n:=sw t (congrArg (Value.int k) (cD h))
def bt (t:Nat) {b c:Bool} (h:b=c):D P n:=.rw false t (congrArg Value.bool h)
def cd (b:Bool):D P n:=.cd b
def wt (t:Nat):D P n:=.wt t
def ch (cs:List Nat) (rws:List (Nat×Rw)):D P n:=.ch cs rws
def St.fact (s:St) (i:Nat) (φ:Fa):St:={s with F:=(i,φ)::s.F}
def nf (i sz:Nat) {α:Type} (f:α→Dat):D P n:=.im {
 ck:=λs k=>k (s.fact i (.sli sz f none 0 ([]:List α)))
 ok:=λc s k G h hk M a w h1 h2 h3 h4=>hk _ h M a w h1 h2 h3 (.cons Sli.nil h4)}
def K (i j:Nat):D P n:=.q {
 v:=λs o=>match kget i s.F with
  |some (.kn _ cs)=>ldV P o j cs
  |_=>undef
 ck:=λs o=>match kget i s.F with
  |some (.kn base cs)=>.ok (okLd P o j cs) (.eq (ev s.L (ldX o)) (.pointer (some (base.add j))) .done)
  |_=>.no
 ok:=λs o h {w0 M H w} hp hF=>by
  split at h
  · rename_i base cs e
    exact XL (λk v hv=>hp.cell (hF.kget e k v hv)) j h.2.1 h.1
  · exact h.elim}
def cE (e:Option Ent):Lv:=match e with|some (.obj _ (.cells cs _ _))=>cs.toList|_=>[]
def bE (e:Option Ent):Nat:=match e with|some (.obj b _)=>b|_=>0
def isC (e:Option Ent):Bool:=match e with|some (.obj _ (.cells _ _ _))=>true|_=>false
theorem isC_spec {e:Option Ent} (h:isC e=true): ∃cs T fr,e=some (.obj (bE e) (.cells cs T fr))∧cE e=cs.toList:=by
 unfold isC at h
 split at h
 ·exact⟨_,_,_,rfl,rfl⟩
 cases h
theorem BD {w0 w:World} {M:Mem} {H:List Ent} {b:Nat} {cs:Array Value} {T:TypeId} {fr:Nat×Nat} (hp:Hp w0 M H w) (h:Ent.obj b (.cells cs T fr)∈H) (j:Nat):w.cell? ⟨b,j,none⟩=cs[j]? :=by
 have:=(hp.own _ h).2
 simp[World.cell?,this]
def O (i:Nat):D P n:=.q {
 v:=λs o=>ldV P o (offV (ev s.L (ldX o))) (cE (kget i s.E))
 ck:=λs o=>.ok (isC (kget i s.E)) (.ok (okLd P o (offV (ev s.L (ldX o))) (cE (kget i s.E))) (.eq (ev s.L (ldX o)) (.pointer (some ⟨bE (kget i s.E),offV (ev s.L (ldX o)),none⟩)) .done))
 ok:=λs o h {w0 M H w} hp hF=>by
  obtain⟨h1,h2,h3,_⟩:=h
  obtain⟨cs,T,fr,e1,e2⟩:=isC_spec h1
  refine XL (base:=⟨bE (kget i s.E),0,none⟩) (λk v hv=>?_) _ (by rw[Addr.add_lit,Nat.zero_add];exact h3) h2
  rw[Addr.add_lit,Nat.zero_add,BD hp (List.mem_append_left _ (kB e1)) k]
  rw[e2] at hv
  simpa using hv}
def obA (P:Program) (L:Fr) (o:Oper):Option Obj:=match (execOp (ev L) o).run P wd with|.ok _ w'=>w'.heap[0]? |_=>none
def bx (i:Nat):D P n:=.l {
 ck:=λops s o k _=>match obA P s.L o with
  |some (.cells cs T fr)=>.ok (okO ops n s.L o) (.eq fr (0,0) (.and (.all λw=>.eq ((execOp (ev s.L) o).run P w) (.ok (.value (.pointer (some ⟨w.heap.size,0,none⟩))) (w.alloc (.cells cs T fr))) .done)
   (.all λb=>k {s with L:=(dstO o,.pointer (some ⟨b,0,none⟩))::s.L,F:=(i,.kn ⟨b,0,none⟩ cs.toList)::s.F})))
  |_=>.no
 ok:=λc ops Q s o rest k kx h hk _=>by
  split at h
  · rename_i cs T fr e1
    obtain⟨h1,rfl,h2,h3⟩:=h
    intro M a w hM hf hp hF
    refine V_box hf hp h1 (λw=>(h2 w).1) λb M' w' hM' hc hp' a' hf'=>hk _ (h3 b) M' a' w' (hM.trans hM') hf' hp' (.cons (fz_box hc) (hF.mo hM'))
  · exact h.elim}
def al (i:Nat):D P n:=.l {
 ck:=λops s o k _=>match obA P s.L o with
  |some ob=>.ok (okO ops n s.L o) (.and (.all λw=>.eq ((execOp (ev s.L) o).run P w) (.ok (.value (.pointer (some ⟨w.heap.size,0,none⟩))) (w.alloc ob)) .done)
   (.all λb=>k {s with L:=(dstO o,.pointer (some ⟨b,0,none⟩))::s.L,E:=(i,.obj b ob)::s.E}))
  |_=>.no
 ok:=λc ops Q s o rest k kx h hk _=>by
  split at h
  · rename_i ob e1
    obtain⟨h1,h2,h3⟩:=h
    intro M a w hM hf hp hF
    exact V_alloc hf hp ob h1 (λw=>(h2 w).1) λb w' hp' a' hf'=>hk _ (h3 b) M a' w' hM hf' hp' hF
  · exact h.elim}
structure Res where
 v:Value
 E:List Ent:=[]
 F:List Fa:=[]
def OkC (P:Program) (F:List Fa) (E:List Ent) (f:FuncId) (args:Lv) (g:Option ρ) (post:ρ→Zs→Res):Prop:=∀M,Fh M F→∀r,g=some r→OkH P M E f args λM' E' v=>∃z,v=(post r z).v∧E'=(post r z).E∧Fh M' (post r z).F
def kback {α:Type _}:List Nat→List α→Nat→List (Nat×α)|k::ks,x::xs,i=>(k,x)::kback ks xs i|[],xs,i=>nums i xs|_,[],_=>[]
theorem Bx {α:Type _}: ∀ (ks:List Nat) (xs:List α) (i:Nat),vals (kback ks xs i)=xs
 |[],xs,i=>by cases xs<;>simp[kback,gb]
 |_::_,[],_=>rfl
 |k::ks,x::xs,i=>congrArg (x:: ·) (Bx ks xs i)
def C {α:Type} {F:Zs→List Fa} {E:Zs→List Ent} {f:FuncId} {args:Zs→Lv} {g:Option α} {post:Zs→α→Zs→Res} (hc: ∀z,OkC P (F z) (E z) f (args z) g (post z)) {x:α} (hx:g=some x) (is js:List Nat) (i:Nat):D P n:=.l {
 ck:=λops s o k _=>.ok (okO ops n s.L o) (.and (.all λw=>.eq ((execOp (ev s.L) o).run P w) (.ok (.enter f (args (zsOf s is js)).toArray) w) .done) (.eqF (kall is s.F) (F (zsOf s is js)) (.eq (ktake js s.E).1 (E (zsOf s is js))
     (.all λz=>k {s with L:=(dstO o,(post (zsOf s is js) x z).v)::s.L,E:=kback js (post (zsOf s is js) x z).E i++(ktake js s.E).2,F:=nums i (post (zsOf s is js) x z).F++s.F}))))
 ok:=λc ops Q s o rest k kx h hk _=>by
  generalize zsOf s is js=z0 at h
  obtain⟨h1,h2,h3,h4,h5⟩:=h
  intro M a w hM hf hp hF
  have hp':Hp c.w0 M (E z0++(vals (ktake js s.E).2++(s.B++c.H))) w:=by
   rw[←List.append_assoc,←h4];exact hp.perm ((lF js s.E).append_right _)
  have hF':Fh M (F z0):=h3▸hF.kall is
  exact V_okH hf hp' (hc z0 M hF' x hx) h1 (λw=>(h2 w).1) λv M' E' w' hM' hp2 ⟨z,e1,e2,e3⟩ a' hf'=>by
   subst e1;subst e2
   refine hk _ (h5 z) M' a' w' (hM.trans hM') hf' ?_ ?_
   · show Hp c.w0 M' (vals (_++_)++(s.B++c.H)) w'
     rw[show vals (kback js (post z0 x z).E i++(ktake js s.E).2)=(post z0 x z).E++vals (ktake js s.E).2 from(List.map_append ..).trans (congrArg (· ++_) (Bx js _ i)),List.append_assoc]
     exact hp2
   · show Fh M' (vals (_++_))
     rw[show vals (nums i (post z0 x z).F++s.F)=(post z0 x z).F++vals s.F from(List.map_append ..).trans (congrArg (· ++_) (gb i _))]
     exact e3.app (hF.mo hM')}
theorem OkC.none {F:List Fa} {E:List Ent} {f:FuncId} {args:Lv} {post:ρ→Zs→Res}:OkC P F E f args (none:Option ρ) post:=λ_ _ _ h=>nomatch h
def rvO (L:Fr) (x:Nat):Nat:=offV ((Vc.look L x).getD undef)
def rvV (P:Program) (L:Fr) (E:Option Ent):ResultVar→Value|.tmp t=>(Vc.look L t).getD undef|.cell x t=>bif one1 P t then((cE E)[rvO L x]?).getD undef else .agg (((cE E).drop (rvO L x)).take (szN P t)).toArray
def rvT (P:Program) (L:Fr) (E:Option Ent):ResultVar→T|.tmp t=>.ok (Vc.look L t).isSome .done|.cell x t=>.ok (isC E) (.ok (bif one1 P t then Nat.blt (rvO L x) (cE E).length else aggN P t (szN P t)&&Nat.ble (rvO L x+szN P t) (cE E).length) (.eq (Vc.look L x) (some (.pointer (some ⟨bE E,rvO L x,none⟩))) .done))
theorem rv_ok {L:Fr} {E:Option Ent} {r:ResultVar} {a:Act} {dd:List Deferred} {w0 w:World} {M:Mem} {H:List Ent} (h: (rvT P L E r).holds) (hf:Frm n L a dd) (hp:Hp w0 M H w) (hE: ∀e,E=some e→e∈H):Rv P a w r (rvV P L E r):=by
 cases r with
 |tmp t=>
  obtain⟨v,hv⟩:=Option.isSome_iff_exists.1 h.1
  have:rvV P L E (.tmp t)=v:=by show(Vc.look L t).getD undef=v;rw[hv];rfl
  rw[this];exact Rv.slot hf hv
 |cell x t=>
  obtain⟨h1,h2,h3,_⟩:=h
  obtain⟨cs,T,fr,e1,e2⟩:=isC_spec h1
  have hc: ∀j v,(cE E)[j]? =some v→w.cell? ⟨bE E,j,none⟩=some v:=λj v hv=>by
   rw[BD hp (hE _ e1) j]
   rw[e2] at hv;simpa using hv
  have e0:rvV P L E (.cell x t)=bif one1 P t then((cE E)[rvO L x]?).getD undef else .agg (((cE E).drop (rvO L x)).take (szN P t)).toArray:=rfl
  cases h4:one1 P t with
  |true=>
   rw[h4,cond_true] at h2
   have hlt:rvO L x<(cE E).length:=by simpa [Nat.blt_eq] using h2
   have e:rvV P L E (.cell x t)=(cE E)[rvO L x]:=by
    rw[e0,h4,cond_true,List.getElem?_eq_getElem hlt];rfl
   rw[e]
   exact Rv.cell1 hf h3 h4 (hc _ _ (List.getElem?_eq_getElem hlt))
  |false=>
   rw[h4,cond_false] at h2
   obtain⟨h5,h6⟩:=Bool.and_eq_true_iff.1 h2
   have hle:=Nat.le_of_ble_eq_true h6
   have hl: (((cE E).drop (rvO L x)).take (szN P t)).length=szN P t:=by rw[List.length_take,List.length_drop];omega
   have e:rvV P L E (.cell x t)=.agg (((cE E).drop (rvO L x)).take (szN P t)).toArray:=by
    rw[e0,h4,cond_false]
   rw[e]
   refine Rv.cellN hf h3 (by rw[hl];exact h5) λk v hv=>?_
   have hk:k<szN P t:=hl▸ (List.getElem?_eq_some_iff.1 hv).1
   rw[List.getElem?_take_of_lt hk,List.getElem?_drop] at hv
   rw[Addr.add_lit]
   exact hc _ v hv
def resT (P:Program) (s:St):List ResultVar→List Nat→T|[],_=>.done|r::rs,ks=>.and (rvT P s.L (kget (ks.headD 0) s.E) r) (resT P s rs ks.tail)
def resL (P:Program) (s:St):List ResultVar→List Nat→Lv|[],_=>[]|r::rs,ks=>rvV P s.L (kget (ks.headD 0) s.E) r::resL P s rs ks.tail
def resV:Lv→Value|[]=>.tuple #[]|[v]=>v|vs=>.tuple vs.toArray
theorem res_ok {fn:Func} {s:St} {a:Act} {dd:List Deferred} {w0 w:World} {M:Mem} {H:List Ent} (hf:Frm n s.L a dd) (hp:Hp w0 M (vals s.E++H) w) {rs:List ResultVar} {ks:List Nat} (hr:fn.results=rs.toArray) (hl:Nat.ble rs.length 4=true) (h: (resT P s rs ks).holds):
 (results fn a.tmps).run P w=.ok (resV (resL P s rs ks)) w:=by
 have key: ∀ {r:ResultVar} {k:Nat},(rvT P s.L (kget k s.E) r).holds→Rv P a w r (rvV P s.L (kget k s.E) r):=λh=>rv_ok h hf hp λe he=>List.mem_append_left _ (kB he)
 rw[results_rv,hr]
 match rs,hl,h with
 |[],_,_=>simp[resL,resV]
 |[r0],_,h=>have h0:=key h.1;unfold Rv at h0;simp[h0,resL,resV]
 |[r0,r1],_,h=>have h0:=key h.1;have h1:=key h.2.1;unfold Rv at h0 h1;simp[h0,h1,resL,resV]
 |[r0,r1,r2],_,h=>have h0:=key h.1;have h1:=key h.2.1;have h2:=key h.2.2.1;unfold Rv at h0 h1 h2;simp[h0,h1,h2,resL,resV]
 |[r0,r1,r2,r3],_,h=>have h0:=key h.1;have h1:=key h.2.1;have h2:=key h.2.2.1;have h3:=key h.2.2.2.1;unfold Rv at h0 h1 h2 h3;simp[h0,h1,h2,h3,resL,resV]
 |_::_::_::_::_::_,hl,_=>simp at hl
def endT (P:Program) (fn:Func) (post:ρ→Zs→Res) (r:ρ) (o:Out) (s:St):T:=.ok (Nat.ble fn.results.toList.length 4) (.and (resT P s fn.results.toList o.rk) (.eq (resV (resL P s fn.results.toList o.rk)) (post r (o.zs s)).v (.eq (ktake o.js s.E).1 (post r (o.zs s)).E (.eqF (kall o.is s.F) (post r (o.zs s)).F .done))))
theorem AG {fn:Func} {post:ρ→Zs→Res} {r:ρ} {o:Out} {s:St} (h: (endT P fn post r o s).holds) {a:Act} {dd:List Deferred} {w0 w:World} {M:Mem} {H:List Ent} (hf:Frm n s.L a dd) (hp:Hp w0 M (vals s.E++H) w) (hF:Fh M (vals s.F)):
 (results fn a.tmps).run P w=.ok (post r (o.zs s)).v w∧Hp w0 M ((post r (o.zs s)).E++H) w∧Fh M (post r (o.zs s)).F:=by
 obtain⟨h1,h2,h3,h4,h5,_⟩:=h
 refine⟨by rw[←h3];exact res_ok hf hp (by simp) h1 h2,?_,h5▸hF.kall o.is⟩
 exact(hp.perm ((lF o.js _).append_right _)).sub (by rw[←h4,List.append_assoc];exact(List.Sublist.refl _).append (List.sublist_append_right _ _))
def finF (P:Program) (fn:Func) (post:ρ→Zs→Res) (r:ρ) (o:Out) (f:Foc) (s:St):T:=match f with|.ex .ret []|.ex .normal []=>.eq s.D [] (endT P fn post r o s)|_=>.no
theorem finF_ok {fn:Func} {post:ρ→Zs→Res} {r:ρ} {o:Out} {f:Foc} {s:St} {w0:World} {M2:Mem} {H:List Ent} {R:Ending→World→Prop} (h: (finF P fn post r o f s).holds)
 (hR: ∀w M',M2.le M'→Hp w0 M' ((post r (o.zs s)).E++H) w→Fh M' (post r (o.zs s)).F→R (.returned (post r (o.zs s)).v) w):Sat P n ⟨w0,M2,H,bodyPost P fn R,none,nolo⟩ f s:=by
 unfold finF at h
 intro M a w h1 h2 h3 h4
 split at h
 ·obtain⟨e0,e1⟩:=h
  obtain⟨k1,k2,k3⟩:=AG e1 h2 h3.noB h4
  rw[e0] at h2
  exact⟨h2.defers,_,k1,hR w M h1 k2 k3⟩
 ·obtain⟨e0,e1⟩:=h
  obtain⟨k1,k2,k3⟩:=AG e1 h2 h3.noB h4
  rw[e0] at h2
  exact⟨h2.defers,_,k1,hR w M h1 k2 k3⟩
 exact h.elim
theorem fn {F:List Fa} {E:List Ent} {f:FuncId} {args:Lv} {g:Option ρ} {post:ρ→Zs→Res} {fn:Func} {c:Code} (n:Nat) (hf:P.funcs[f]? =some fn) (W0:W P n g) (hb:fn.body=some c:=by rfl) (hn:fn.ntmps=n:=by rfl) (hl:args.length≤n:=by simp)
 (h:W0.ck false (finF P fn post) (.code c []) {L:=frame0 args 0,E:=nums 0 E,F:=nums 0 F}=(W0.ck false (finF P fn post) (.code c []) {L:=frame0 args 0,E:=nums 0 E,F:=nums 0 F}).diag:=by kernel_rfl):OkC P F E f args g post:=by
 intro M hF r hr M2 hM2 w0 H w hp
 refine jK n hf hb hn hl λa ha=>?_
 refine RI_out ?_
 refine W0.ok ⟨w0,M2,H,bodyPost P fn λe w'=>∃v,e=.returned v∧∃M' E',M2.le M'∧Hp w0 M' (E'++H) w'∧∃z,v=(post r z).v∧E'=(post r z).E∧Fh M' (post r z).F,none,nolo⟩ (finF P fn post) r hr _ _ (T.chk h) ?_ M2 a w (Mem.le_refl _) ha (by show Hp w0 M2 (vals (nums 0 E)++H) w;rw[gb];exact hp) (by show Fh M2 (vals (nums 0 F));rw[gb];exact hF.mo hM2)
 intro o f' s' h'
 exact finF_ok h' λw M' g1 g2 g3=>⟨_,rfl,M',_,g1,g2,o.zs s',rfl,rfl,g3⟩
variable {P:Program} {n:Nat} {ρ:Type}
def sh (k:Nat) (z:Zs):Zs:=λi=>z (i+k)
structure Ty (α:Type) where
 nz:Nat
 sz:Nat
 f:α→Dat
 cells:α→Zs→Lv
 facts:α→Zs→List Fa
 opn: ∀ {M x c},Rep M (f x) c→∃z,c=cells x z∧Fh M (facts x z)
 shut: ∀ {M x z},Fh M (facts x z)→Rep M (f x) (cells x z)
 szd: ∀x,Szd sz (f x)
 loc: ∀ {x} {z z':Zs},(∀i,i<nz→z i=z' i)→cells x z=cells x z'∧facts x z=facts x z'
def tI (k:IntKind):Ty Int:=⟨0,1,Dat.int k,λx _=>[.int k x],λ_ _=>[],λh=>⟨λ_=>{},h,Fh.nil⟩,λ_=>rfl,AR k,λ_=>⟨rfl,rfl⟩⟩
def tB:Ty Bool:=⟨0,1,Dat.bool,λx _=>[.bool x],λ_ _=>[],λh=>⟨λ_=>{},h,Fh.nil⟩,λ_=>rfl,szd_bool,λ_=>⟨rfl,rfl⟩⟩
def tS:Ty Bs:=⟨0,1,Dat.str,λx _=>[S x],λ_ _=>[],λh=>⟨λ_=>{},h,Fh.nil⟩,λ_=>rfl,szd_str,λ_=>⟨rfl,rfl⟩⟩
def tU:Ty UInt8:=⟨0,1,embB,λx _=>[.int .u8 (x.toNat:Int)],λ_ _=>[],λh=>⟨λ_=>{},h,Fh.nil⟩,λ_=>rfl,szd_byte,λ_=>⟨rfl,rfl⟩⟩
def tL {α:Type} (sz:Nat) (f:α→Dat):Ty (List α) where
 nz:=1
 sz:=1
 f:=eL sz f
 cells xs z:=[.slice (z 0).A xs.length (z 0).c]
 facts xs z:=[.sli sz f (z 0).A (z 0).c xs]
 opn h:=by
  obtain⟨A,cap,rfl,hs⟩:=Rep.sli h
  exact⟨λ_=>{A:=A,c:=cap},rfl,Fh.one hs⟩
 shut h:=Sli.rep (h _ (List.mem_singleton.2 rfl))
 szd _:=szd_list _ _
 loc h:=by rw[h 0 (by decide)];exact⟨rfl,rfl⟩
structure Fl (α:Type) where
 {β:Type}
 Y:Ty β
 p:α→β
section
variable {α:Type} {M:Mem}
def cellsF:List (Fl α)→α→Zs→Lv|[],_,_=>[]|l::r,x,z=>l.Y.cells (l.p x) z++cellsF r x (sh l.Y.nz z)
def factsF:List (Fl α)→α→Zs→List Fa|[],_,_=>[]|l::r,x,z=>l.Y.facts (l.p x) z++factsF r x (sh l.Y.nz z)
def nzF:List (Fl α)→Nat|[]=>0|l::r=>l.Y.nz+nzF r
def szF:List (Fl α)→Nat|[]=>0|l::r=>l.Y.sz+szF r
theorem opnF: ∀ {fs:List (Fl α)} {x:α} {c:Lv},au M (fs.map λl=>l.Y.f (l.p x)) c→∃z,c=cellsF fs x z∧Fh M (factsF fs x z)
 |[],x,c,h=>⟨λ_=>{},h,Fh.nil⟩
 |l::r,x,c,h=>by
  obtain⟨c1,c2,rfl,h1,h2⟩:=h
  obtain⟨z1,rfl,g1⟩:=l.Y.opn h1
  obtain⟨z2,rfl,g2⟩:=opnF h2
  have e1:=l.Y.loc (x:=l.p x) (z:=λi=>if i<l.Y.nz then z1 i else z2 (i-l.Y.nz)) (z':=z1) (λi hi=>by simp[hi])
  have e2:sh l.Y.nz (λi=>if i<l.Y.nz then z1 i else z2 (i-l.Y.nz))=z2:=by
   funext i
   show(if i+l.Y.nz<l.Y.nz then z1 (i+l.Y.nz) else z2 (i+l.Y.nz-l.Y.nz))=z2 i
   rw[if_neg (by omega),Nat.add_sub_cancel]
  refine⟨λi=>if i<l.Y.nz then z1 i else z2 (i-l.Y.nz),?_,?_⟩
  ·simp only[cellsF];rw[e1.1,e2]
  simp only[factsF];rw[e1.2,e2];exact g1.app g2
theorem shutF: ∀ {fs:List (Fl α)} {x:α} {z:Zs},Fh M (factsF fs x z)→au M (fs.map λl=>l.Y.f (l.p x)) (cellsF fs x z)
 |[],_,_,_=>rfl
 |l::r,x,z,h=>⟨_,_,rfl,l.Y.shut λφ hφ=>h φ (List.mem_append_left _ hφ),shutF λφ hφ=>h φ (List.mem_append_right _ hφ)⟩
theorem szdF: ∀ (fs:List (Fl α)) (x:α),Szd (szF fs) (.struct (fs.map λl=>l.Y.f (l.p x)))
 |[],_=>szd_nil
 |l::r,x=>szd_cons (l.Y.szd _) (szdF r x)
theorem locF: ∀ {fs:List (Fl α)} {x:α} {z z':Zs},(∀i,i<nzF fs→z i=z' i)→cellsF fs x z=cellsF fs x z'∧factsF fs x z=factsF fs x z'
 |[],_,_,_,_=>⟨rfl,rfl⟩
 |l::r,x,z,z',h=>by
  have h1:=l.Y.loc (x:=l.p x) (z:=z) (z':=z') λi hi=>h i (by simp only[nzF];omega)
  have h2:=locF (fs:=r) (x:=x) (z:=sh l.Y.nz z) (z':=sh l.Y.nz z') λi hi=>h (i+l.Y.nz) (by simp only[nzF];omega)
  simp only[cellsF,factsF]
  rw[h1.1,h1.2,h2.1,h2.2]
  exact⟨rfl,rfl⟩
def tT (fs:List (Fl α)) (f:α→Dat) (e: ∀x,f x=.struct (fs.map λl=>l.Y.f (l.p x))):Ty α where
 nz:=nzF fs
 sz:=szF fs
 f:=f
 cells:=cellsF fs
 facts:=factsF fs
 opn h:=opnF (by rw[e] at h;exact h)
 shut h:=by rw[e];exact shutF h
 szd x:=by rw[e];exact szdF fs x
 loc h:=locF h
end
def Ty.ag {α:Type} (Y:Ty α) (x:α) (z:Zs):Value:=.agg (Y.cells x z).toArray
def I (k i:Nat) {α:Type} (Y:Ty α) {xs:List α} {it:Int} {x:α} (hx:aq xs it=some x):D P n:=.l {
 ck:=λops s o kt _=>match kget k s.F with
  |some (.sli sz f' A cap ys)=>.ok (okO ops n s.L o) (.ok (okIx P o) (.eq (ixZ P o) Y.sz (.eq (ev s.L (ixS o)) (.slice A xs.length (capV (ev s.L (ixS o)))) (.eq (ev s.L (ixI o)) (.int (kindV (ev s.L (ixI o))) it)
   (.eqF [.sli sz f' A cap ys] [.sli Y.sz Y.f A cap xs] (.all λad:Addr=>.all λz=>kt {s with L:=(dstO o,.pointer (some (ad.add (it.toNat*Y.sz))))::s.L,F:=(i,.kn (ad.add (it.toNat*Y.sz)) (Y.cells x z))::(nums (i+1) (Y.facts x z)++s.F)}))))))
  |_=>.no
 ok:=λc ops Q s o rest kt kx h hk _=>by
  split at h
  · rename_i β sz f' A cap ys e
    obtain⟨h1,h2,h3,h4,h5,h6,h7⟩:=h
    intro M a w hM hf hp hF
    have hs:Sli M Y.sz Y.f A cap xs:=by
     have:=hF.kget e
     rw[(List.cons.inj h6).1] at this
     exact this
    obtain⟨ad,c',e1,_,e2,e3⟩:=Sli.at_ hs hx
    obtain⟨z,rfl,e4⟩:=Y.opn e2
    have h8:=XI (P:=P) (w:=w) (ρ:=ev s.L) (o:=o) e1 hx h4 h5 h2
    rw[h3] at h8
    refine ku hf h1 h8 λa' hf'=>hk _ (h7 ad z) M a' w hM hf' hp (.cons e3 ?_)
    show Fh M (vals (_++_))
    rw[show vals (nums (i+1) (Y.facts x z)++s.F)=Y.facts x z++vals s.F from(List.map_append ..).trans (congrArg (· ++_) (gb _ _))]
    exact e4.app hF
  · exact h.elim}
def Ie (k i:Nat) {α:Type} (Y:Ty α) {xs:List α} {it:Int} {x:α} (hx:aq xs it=some x):D P n:=.im {
 ck:=λs kt=>match kget k s.F with
  |some (.sli sz f' A cap ys)=>.eqF [.sli sz f' A cap ys] [.sli Y.sz Y.f A cap xs] (.all λad:Addr=>.all λz=>kt {s with F:=(i,.kn (ad.add (it.toNat*Y.sz)) (Y.cells x z))::(i+1,.ix A it xs.length ad)::(nums (i+2) (Y.facts x z)++s.F)})
  |_=>.no
 ok:=λc s kt G h hk=>by
  split at h
  · rename_i β sz f' A cap ys e
    obtain⟨h6,h7⟩:=h
    intro M a w hM hf hp hF
    have hs:Sli M Y.sz Y.f A cap xs:=by
     have:=hF.kget e
     rw[(List.cons.inj h6).1] at this
     exact this
    obtain⟨ad,c',e1,_,e2,e3⟩:=Sli.at_ hs hx
    obtain⟨z,rfl,e4⟩:=Y.opn e2
    refine hk _ (h7 ad z) M a w hM hf hp (.cons e3 (.cons ⟨e1,lZ hx,lY hx⟩ ?_))
    show Fh M (vals (_++_))
    rw[show vals (nums (i+2) (Y.facts x z)++s.F)=Y.facts x z++vals s.F from(List.map_append ..).trans (congrArg (· ++_) (gb _ _))]
    exact e4.app hF
  · exact h.elim}
theorem XIb {o:Oper} {w:World} {ρ:Operand→Value} {A:Oa} {ad:Addr} {len cap:Nat} {it:Int} {k:IntKind} (hA:A=some ad) (h0:0≤it) (h1:it<len) (hs:ρ (ixS o)=.slice A len cap) (hi:ρ (ixI o)=.int k it) (hB:okIx P o=true):
 (execOp ρ o).run P w=.ok (.value (.pointer (some (ad.add (it.toNat*ixZ P o))))) w:=by
 unfold okIx at hB
 split at hB
 ·rename_i t x y he
  split at hB
  ·rename_i e hu
   have h2:ixZ P o=szN P e:=by unfold ixZ;rw[he];simp only[hu]
   rw[h2]
   exact nZ hA he (by simpa [ixS,he] using hs) (by simpa [ixI,he] using hi) hu hB h0 h1
  cases hB
 cases hB
def X (i:Nat):D P n:=.q {
 v:=λs o=>match kget i s.F with
  |some (.ix _ it _ ad)=>.pointer (some (ad.add (it.toNat*ixZ P o)))
  |_=>undef
 ck:=λs o=>match kget i s.F with
  |some (.ix A it len ad)=>.ok (okIx P o) (.eq (ev s.L (ixS o)) (.slice A len (capV (ev s.L (ixS o)))) (.eq (ev s.L (ixI o)) (.int (kindV (ev s.L (ixI o))) it) .done))
  |_=>.no
 ok:=λs o h {w0 M H w} hp hF=>by
  split at h
  · rename_i A it len ad e
    obtain⟨g1,g2,g3⟩:=hF.kget e
    exact XIb g1 g2 g3 h.2.1 h.2.2.1 h.1
  · exact h.elim}
def OkCX (P:Program) (F:List Fa) (E:List Ent) (f:FuncId) (args:Lv) (t:Nat) (g:Option (Sum (Int×Bs) ρ)) (post:ρ→Zs→Res):Prop:=∀M,Fh M F→∀r,g=some r→OkXH P M E f args t r λy M' E' v=>∃z,v=(post y z).v∧E'=(post y z).E∧Fh M' (post y z).F
section
variable {α:Type} {F:Zs→List Fa} {E:Zs→List Ent} {f:FuncId} {args:Zs→Lv} {t:Nat} {g:Option (Sum (Int×Bs) α)} {post:Zs→α→Zs→Res}
end
theorem OkCX.none {F:List Fa} {E:List Ent} {f:FuncId} {args:Lv} {t:Nat} {post:ρ→Zs→Res}:OkCX P F E f args t (none:Option (Sum (Int×Bs) ρ)) post:=λ_ _ _ h=>nomatch h
def finX (P:Program) (t:Nat) (fn:Func) (post:ρ→Zs→Res) (r:Sum (Int×Bs) ρ) (o:Out) (f:Foc) (s:St):T:=match r with|.inl x=>(match f with|.ex (.panic ch) []=>.eq s.D [] (.eq ch (flawE t x) .done)|_=>.no)|.inr y=>finF P fn post y o f s
structure Ko (P:Program) (n:Nat) {β:Type} (kk:β→Option ρ) where
 ck:Bool→(ρ→Out→Foc→St→T)→(β→Foc)→(β→St)→T
 ok: ∀ (c:Cn) (fin:ρ→Out→Foc→St→T) (r:ρ) (b:β) (_:kk b=some r) (f:β→Foc) (s:β→St),(ck c.rd fin f s).holds→(∀o f' s',(fin r o f' s').holds→Sat P n c f' s')→Sat P n c (f b) (s b)
def kA {β:Type} {kk:β→Option ρ} (k: ∀b,W P n (kk b)):Ko P n kk where
 ck rd fin f s:=.all λb=>(k b).ck rd fin (f b) (s b)
 ok c fin r b e f s h hk:=(k b).ok c fin r e _ _ (h b) hk
def kS {β γ:Type} {kk:Sum β γ→Option ρ} (A:Ko P n λy=>kk (.inl y)) (A':Ko P n λy=>kk (.inr y)):Ko P n kk where
 ck rd fin f s:=.and (A.ck rd fin (λy=>f (.inl y)) (λy=>s (.inl y))) (A'.ck rd fin (λy=>f (.inr y)) (λy=>s (.inr y)))
 ok c fin r b e f s h hk:=match b,e with
  |.inl y,e=>A.ok c fin r y e _ _ h.1 hk
  |.inr y,e=>A'.ok c fin r y e _ _ h.2 hk
def oS {α β:Type} {g:Option (Sum α β)} {kk:Sum α β→Option ρ} (A: ∀x,g=some (.inl x)→W P n (kk (.inl x))) (A': ∀x,g=some (.inr x)→W P n (kk (.inr x))):W P n (g.bind kk) where
 ck rd fin f s:=.and (.all λx=>.all λh:PLift (g=some (.inl x))=>(A x h.down).ck rd fin f s) (.all λx=>.all λh:PLift (g=some (.inr x))=>(A' x h.down).ck rd fin f s)
 ok cn fin r er f s h k:=by
  obtain⟨x,hx,hr⟩:=Option.bind_eq_some_iff.1 er
  cases x with
  |inl x=>exact(A x hx).ok cn fin r hr f s (h.1 x ⟨hx⟩) k
  |inr x=>exact(A' x hx).ok cn fin r hr f s (h.2 x ⟨hx⟩) k
structure Jn where
 e:Exit:=.normal
 L:Fr:=[]
 ks:List Nat:=[]
 c:List (Nat×Nat):=[]
 E:Es:=[]
 m:List (Nat×Nat×Value):=[]
 o:List (Nat×Obj):=[]
 x:List Nat:=[]
 F:Fs:=[]
 B:Option (List Ent):=none
def kmem {α:Type _} (k:Nat):List (Nat×α)→Bool|[]=>false|(j,_)::r=>Nat.beq j k||kmem k r
def nmem (k:Nat):List Nat→Bool|[]=>false|j::r=>Nat.beq j k||nmem k r
def modC (k:Nat):List (Nat×Nat×Value)→Ent→Ent|[],e=>e|(j,q,v)::r,e=>modC k r (bif Nat.beq j k then match e with|.obj b (.cells cs T fr)=>.obj b (.cells (setL cs.toList q [v]).toArray T fr)|e=>e else e)
def modO (k:Nat) (l:List (Nat×Obj)) (e:Ent):Ent:=match kget k l,e with|some o,.obj b _=>.obj b o|_,e=>e
def stay (E:Es) (J:Jn):Es:=(E.filter λp=> !(kmem p.1 J.E||nmem p.1 J.x)).map λp=>(p.1,modO p.1 J.o (modC p.1 J.m p.2))
def Jn.fr (J:Jn) (s:St):Fr:=J.L++(J.c.map λp=>(p.1,(Vc.look s.L p.2).getD undef))++kpL J.ks s.L
def Jn.st (J:Jn) (s:St):St:={L:=J.fr s,E:=J.E++stay s.E J,F:=J.F++s.F,D:=s.D,B:=J.B.getD s.B}
def Jn.fit (J:Jn) (s:St) (o:Out) (s':St) (t:T):T:=.eq s'.B (J.B.getD s.B) (.eq s'.D s.D (.eq ((J.fr s).map λp=>Vc.look s'.L p.1) ((J.fr s).map λp=>some p.2) (.eq (ktake (o.js++(stay s.E J).map (·.1)) s'.E).1 (vals (J.E++stay s.E J)) (.eqF (kall o.is s'.F) (vals J.F) t))))
theorem keep_frm {n:Nat} {L K:Fr} {a:Act} {dd:List Deferred} (hf:Frm n L a dd) (h: (K.map λp=>Vc.look L p.1)=K.map λp=>some p.2):Frm n K a dd:=by
 refine⟨hf.size,hf.defers,λt v hv=>hf.at_ t v ?_⟩
 induction K with
 |nil=>cases hv
 |cons p r ih=>
  obtain⟨k,u⟩:=p
  simp only[List.map_cons,List.cons.injEq] at h
  unfold Vc.look at hv
  cases hb:Nat.beq k t with
  |true=>rw[hb] at hv;obtain rfl:=Nat.eq_of_beq_eq_true hb;rw[←hv];exact h.1
  |false=>rw[hb] at hv;exact ih h.2 hv
theorem Jn.fit_ok {J:Jn} {s s':St} {o:Out} {t:T} (h: (J.fit s o s' t).holds) {M0 M:Mem} {a:Act} {w w0:World} {H:List Ent} (hM:M0.le M) (hF0:Fh M0 (vals s.F)) (hf:Frm n s'.L a s'.D) (hp:Hp w0 M (vals s'.E++(s'.B++H)) w) (hF:Fh M (vals s'.F)):
 Frm n (J.st s).L a s.D∧Hp w0 M (vals (J.st s).E++((J.st s).B++H)) w∧Fh M (vals (J.st s).F)∧t.holds:=by
 obtain⟨hB,h0,h1,h2,h3,h4⟩:=h
 rw[h0] at hf
 rw[hB] at hp
 refine⟨keep_frm hf h1,?_,?_,h4⟩
 ·show Hp w0 M (vals (J.E++stay s.E J)++(J.B.getD s.B++H)) w
  rw[←h2]
  exact(hp.perm ((lF _ _).append_right _)).sub (by rw[List.append_assoc];exact(List.Sublist.refl _).append (List.sublist_append_right _ _))
 show Fh M (vals (J.F++s.F))
 rw[show vals (J.F++s.F)=vals J.F++vals s.F from List.map_append ..]
 exact(h3▸hF.kall o.is).app (hF0.mo hM)
def St.bl (s:St) (j:Nat):Nat:=bE (kget j s.E)
def jn (sp:Sp) (ds:List (D P n)) {β:Type} {x:Option β} {kk:β→Option ρ} (J:β→Zs→(Nat→Nat)→Jn) (A:W P n x) (k:Ko P n kk):W P n (x.bind kk) where
 ck rd fin f s:=go P n rd sp (λf s=>match f with
  |.code c ls=>.and (A.ck rd (λb o f' s'=>match f' with
   |.ex e []=>.eq e (J b (o.zs s') s.bl).e ((J b (o.zs s') s.bl).fit s o s' .done)
   |_=>.no) (.code c []) s) (.all λz=>k.ck rd fin (λb=>.ex (J b z s.bl).e ls) (λb=>(J b z s.bl).st s))
  |_=>.no) 4000 ds f s
 ok cn fin r er f s h hk:=by
  refine mB (λf s h=>?_) _ _ _ _ h
  split at h
  · rename_i c ls
    obtain⟨h1,h2⟩:=h
    obtain⟨b,hx,hr⟩:=Option.bind_eq_some_iff.1 er
    intro M a w hM hf hp hF
    refine A.ok ⟨cn.w0,M,cn.H,den cn.ro P cn.B ls,cn.ro,λh=>sT (cn.lo h) ls⟩ _ b hx _ _ h1 (λo f' s' h'=>?_) M a w (Mem.le_refl M) hf hp hF
    split at h'
    · rename_i e
      obtain⟨e1,h'⟩:=h'
      intro M' a' w' g1 g2 g3 g4
      obtain⟨i1,i2,i3,_⟩:=Jn.fit_ok h' g1 hF g2 g3 g4
      have:=k.ok cn fin r b hr (λb=>.ex (J b (o.zs s') s.bl).e ls) (λb=>(J b (o.zs s') s.bl).st s) (h2 (o.zs s')) hk M' a' w' (hM.trans g1) i1 i2 i3
      rw[e1]
      exact this
    · exact h'.elim
  · exact h.elim
def esc {g:Option ρ} {τ:Type} (ds:List (D P n)) (W0:W P n g):W P n (g.map (Lp.br (σ:=τ))) where
 ck rd fin f s:=go P n rd .no (λf s=>match f with
  |.ex e (.mark::ks)=>W0.ck rd (λr=>fin (.br r)) (.ex e ks) s
  |_=>.no) 4000 ds f s
 ok cn fin r er f s h hk:=by
  refine mB (λf s h=>?_) _ _ _ _ h
  split at h
  · rename_i e ks
    obtain⟨r0,hr,rfl⟩:=Option.map_eq_some_iff.1 er
    intro M a w hM hf hp hF
    exact W0.ok cn (λr=>fin (.br r)) r0 hr _ _ h (λo f' s' h'=>hk o f' s' h') M a w hM hf hp hF
  · exact h.elim
def jb (sp:Sp) (ds:List (D P n)) {τ:Type} {x:Option (Lp τ ρ)} {kk:τ→Option ρ} (J:τ→Zs→(Nat→Nat)→Jn) (A:W P n x) (k:Ko P n kk):W P n (x.bind λj=>joinF j kk) where
 ck rd fin f s:=go P n rd sp (λf s=>match f with
  |.code c ls=>.and (A.ck rd (λr o f' s'=>match r with
   |.nx b=>(match f' with
    |.ex e (.mark::ls')=>.eq ls' ls (.eq e (J b (o.zs s') s.bl).e ((J b (o.zs s') s.bl).fit s o s' .done))
    |_=>.no)
   |.br l=>fin l o f' s') (.code c (.mark::ls)) s) (.all λz=>k.ck rd fin (λb=>.ex (J b z s.bl).e ls) (λb=>(J b z s.bl).st s))
  |_=>.no) 4000 ds f s
 ok cn fin r er f s h hk:=by
  refine mB (λf s h=>?_) _ _ _ _ h
  split at h
  · rename_i c ls
    obtain⟨h1,h2⟩:=h
    obtain⟨b,hx,hr⟩:=Option.bind_eq_some_iff.1 er
    intro M a w hM hf hp hF
    have:=A.ok ⟨cn.w0,M,cn.H,cn.B,cn.ro,cn.lo⟩ _ b hx (.code c (.mark::ls)) s h1 (λo f' s' h'=>?_) M a w (Mem.le_refl M) hf hp hF
    · exact this
    · cases b with
      |br l=>
       obtain rfl:=Option.some.inj hr
       intro M' a' w' g1 g2 g3 g4
       exact hk o f' s' h' M' a' w' (hM.trans g1) g2 g3 g4
      |nx b=>
       dsimp only at h'
       split at h'
       · rename_i e ls'
         obtain⟨rfl,e1,h'⟩:=h'
         intro M' a' w' g1 g2 g3 g4
         obtain⟨i1,i2,i3,_⟩:=Jn.fit_ok h' g1 hF g2 g3 g4
         have:=k.ok cn fin r b hr (λb=>.ex (J b (o.zs s') s.bl).e ls') (λb=>(J b (o.zs s') s.bl).st s) (h2 (o.zs s')) hk M' a' w' (hM.trans g1) i1 i2 i3
         rw[e1]
         exact this
       · exact h'.elim
  · exact h.elim
def lp (ds:List (D P n)) {σ β:Type} {step:σ→Option (Lp σ β)} {m:Nat} {s0:σ} {kk:β→Option ρ} (o0:Out) (J:σ→Zs→(Nat→Nat)→Jn) (J2:β→Zs→(Nat→Nat)→Jn) (A: ∀x,W P n (step x)) (k:Ko P n kk):W P n ((av step m s0).bind kk) where
 ck rd fin f s:=go P n rd .no (λf s=>match f with
  |.code (.loop c) ls=>.ok (!rd) (.and ((J s0 (o0.zs s) s.bl).fit s o0 s .done)
   (.and (.all λx=>.all λz=>(A x).ck rd (λr o f' s'=>match f' with
    |.ex e []=>(match r with
     |.nx x'=>(match e with
      |.normal=>(J x' (o.zs s') s.bl).fit s o s' .done
      |_=>.no)
     |.br b=>(match e with
      |.normal=>.no
      |e=>.eq e (J2 b (o.zs s') s.bl).e ((J2 b (o.zs s') s.bl).fit s o s' .done)))
    |_=>.no) (.code c []) ((J x z s.bl).st s))
   (.all λz=>k.ck rd fin (λb=>.ex (J2 b z s.bl).e ls) (λb=>(J2 b z s.bl).st s))))
  |_=>.no) 4000 ds f s
 ok cn fin r er f s h hk:=by
  obtain⟨w0,M0,Hc,B,ro,lo⟩:=cn
  refine mB (λf s h=>?_) _ _ _ _ h
  split at h
  · rename_i c ls
    obtain⟨h0,h1,h2,h3⟩:=h
    cases ro with
    |some _=>cases h0
    |none=>
    obtain⟨b,hx,hr⟩:=Option.bind_eq_some_iff.1 er
    intro M a w hM hf hp hF
    obtain⟨i1,i2,i3,_⟩:=Jn.fit_ok h1 (Mem.le_refl M) hF hf hp hF
    refine RI_in (wp_loop_x (σ:=Nat×σ) (λq a w=>av step q.1 q.2=some b∧∃z M',M.le M'∧Frm n ((J q.2 z s.bl).st s).L a s.D∧Hp w0 M' (vals ((J q.2 z s.bl).st s).E++(((J q.2 z s.bl).st s).B++Hc)) w∧Fh M' (vals ((J q.2 z s.bl).st s).F)) (λq=>q.1) (m,s0) ⟨hx,o0.zs s,M,Mem.le_refl M,i1,i2,i3⟩ ?_)
    rintro⟨m1,x⟩ a1 w1 ⟨hl,z,M1,g0,g1,g2,g3⟩
    obtain⟨m2,r1,rfl,hs,hn⟩:=loop_step hl
    refine RI_out ((A x).ok ⟨w0,M1,Hc,Exit.then (λa' w'=>∃x':Nat×σ,x'.1<m2+1∧av step x'.1 x'.2=some b∧∃z M',M.le M'∧Frm n ((J x'.2 z s.bl).st s).L a' s.D∧Hp w0 M' (vals ((J x'.2 z s.bl).st s).E++(((J x'.2 z s.bl).st s).B++Hc)) w'∧Fh M' (vals ((J x'.2 z s.bl).st s).F)) (den none P B ls),none,nolo⟩ _ r1 hs _ _ (h2 x z) (λo f' s' h'=>?_) M1 a1 w1 (Mem.le_refl M1) g1 g2 g3)
    split at h'
    · rename_i e
      intro M' a' w' j1 j2 j3 j4
      cases r1 with
      |nx x'=>
       dsimp only at h'
       split at h'
       · obtain⟨i1,i2,i3,_⟩:=Jn.fit_ok h' (g0.trans j1) hF j2 j3 j4
         exact⟨(m2,x'),Nat.lt_succ_self _,hn,o.zs s',M',g0.trans j1,i1,i2,i3⟩
       · exact h'.elim
      |br b'=>
       obtain rfl:=Option.some.inj hn
       dsimp only at h'
       have key:e≠ .normal→(T.eq e (J2 b' (o.zs s') s.bl).e ((J2 b' (o.zs s') s.bl).fit s o s' .done)).holds→Exit.then (λa' w'=>∃x':Nat×σ,x'.1<m2+1∧av step x'.1 x'.2=some b'∧∃z M',M.le M'∧Frm n ((J x'.2 z s.bl).st s).L a' s.D∧Hp w0 M' (vals ((J x'.2 z s.bl).st s).E++(((J x'.2 z s.bl).st s).B++Hc)) w'∧Fh M' (vals ((J x'.2 z s.bl).st s).F)) (den none P B ls) e a' w':=λhne ⟨e1,h'⟩=>by
        obtain⟨i1,i2,i3,_⟩:=Jn.fit_ok h' (g0.trans j1) hF j2 j3 j4
        have:=k.ok ⟨w0,M0,Hc,B,none,lo⟩ fin r b' hr (λb=>.ex (J2 b (o.zs s') s.bl).e ls) (λb=>(J2 b (o.zs s') s.bl).st s) (h3 (o.zs s')) hk M' a' w' (hM.trans (g0.trans j1)) i1 i2 i3
        rw[←e1] at this
        cases e<;>first|exact(hne rfl).elim|exact this
       cases e<;>first|exact h'.elim|exact key (by simp) h'
    · exact h'.elim
  · exact h.elim
variable {P:Program} {n:Nat} {ρ:Type}
def fz (j i:Nat):D P n:=.im {
 ck:=λs k=>match kget j s.E with
  |some (.obj b (.cells cs T fr))=>.eq fr (0,0) (k {s with E:=kdel j s.E,F:=(i,.kn ⟨b,0,none⟩ cs.toList)::s.F})
  |_=>.no
 ok:=λc s k G h hk=>by
  split at h
  · rename_i b cs T fr e
    obtain⟨rfl,h⟩:=h
    intro M a w hM hf hp hF
    have hp':Hp c.w0 M (.obj b (.cells cs.toList.toArray T (0,0))::(vals (kdel j s.E)++(s.B++c.H))) w:=by
     rw[Array.toArray_toList];exact hp.perm ((aW e).1.append_right _)
    obtain⟨M',g1,g2,g3⟩:=hp'.fzOwn
    exact hk _ h M' a w (hM.trans g1) hf g2 (.cons (λj v hv=>g3 j v hv) (hF.mo g1))
  · exact h.elim}
def ri (j k i:Nat):D P n:=.im {
 ck:=λs kt=>match kget j s.E,kget k s.F with
  |some (.row e sz (.slice A m c) m' cs),some (.seq sz' f xs cs')=>.eq m xs.length (.eq m' xs.length (.eq sz sz' (.eq cs cs' (kt {s with E:=kdel j s.E,F:=(i,.sli sz' f A c xs)::s.F}))))
  |_,_=>.no
 ok:=λc s kt G h hk=>by
  split at h
  · rename_i e sz A m cc m' cs α sz' f xs cs' e1 e2
    obtain⟨rfl,rfl,rfl,rfl,h⟩:=h
    intro M a w hM hf hp hF
    obtain⟨g1,g2⟩:=hF.kget e2
    have hp':=hp.perm ((aW e1).1.append_right _)
    obtain⟨A',c',M',k1,k2,k3,k4⟩:=Hp.rowSli (xs:=xs) hp' g2 g1
    obtain⟨rfl,_,rfl⟩:=Value.slice.inj k1
    exact hk _ h M' a w (hM.trans k2) hf k3 (.cons k4 (hF.mo k2))
  · exact h.elim}
section
variable {α:Type} (Y:Ty α)
def litV (s:St):List (α×List Nat)→Lv|[]=>[]|(x,is)::r=>Y.cells x (zsOf s is [])++litV s r
def litT (s:St):List (α×List Nat)→T→T|[],t=>t|(x,is)::r,t=>.eqF (kall is s.F) (Y.facts x (zsOf s is [])) (litT s r t)
theorem lit_ok {s:St} {M:Mem} (hF:Fh M (vals s.F)): ∀ {l:List (α×List Nat)} {t:T},(litT Y s l t).holds→au M ((l.map (·.1)).map Y.f) (litV Y s l)∧t.holds
 |[],t,h=>⟨rfl,h⟩
 |(x,is)::r,t,h=>by
  obtain⟨h1,h2⟩:=h
  obtain⟨g1,g2⟩:=lit_ok hF h2
  exact⟨⟨_,_,rfl,Y.shut (h1▸hF.kall is),g1⟩,g2⟩
end
def obS (P:Program) (L:Fr) (o:Oper):Option (Obj×Nat):=match (execOp (ev L) o).run P wd with|.ok (.value (.slice _ k _)) w'=>(w'.heap[0]?).map λb=>(b,k)|_=>none
def runS (P:Program) (s:St) (o:Oper) (ob:Obj) (k:Nat):T:=.all λw=>.eq ((execOp (ev s.L) o).run P w) (.ok (.value (.slice (some ⟨w.heap.size,0,none⟩) k k)) (w.alloc ob)) .done
def ao (j:Nat):D P n:=.l {
 ck:=λops s o kt _=>match obS P s.L o with
  |some (ob,k)=>.ok (okO ops n s.L o) (.and (runS P s o ob k) (.all λb=>kt {s with L:=(dstO o,.slice (some ⟨b,0,none⟩) k k)::s.L,E:=(j,.obj b ob)::s.E}))
  |none=>.no
 ok:=λc ops Q s o rest kt kx h hk _=>by
  split at h
  · rename_i ob k e
    obtain⟨h1,h2,h3⟩:=h
    intro M a w hM hf hp hF
    exact uX hf hp ob k k h1 (λw=>(h2 w).1) λb w' hp' a' hf'=>hk _ (h3 b) M a' w' hM hf' hp' hF
  · exact h.elim}
def lk (j i:Nat) {α:Type} (Y:Ty α) (l:List (α×List Nat)):D P n:=.im {
 ck:=λs kt=>match kget j s.E with
  |some (.obj b (.cells cs T fr))=>.eq fr (0,0) (.eq cs.toList (litV Y s l) (.ok (Nat.ble (l.map (·.1)).length maxLen) (litT Y s l (kt {s with E:=kdel j s.E,F:=(i,.sli Y.sz Y.f (some ⟨b,0,none⟩) (l.map (·.1)).length (l.map (·.1)))::s.F}))))
  |_=>.no
 ok:=λc s kt G h hk=>by
  split at h
  · rename_i b cs T fr e
    obtain⟨rfl,h3,h5,h6⟩:=h
    intro M a w hM hf hp hF
    obtain⟨g1,g2⟩:=lit_ok Y hF h6
    obtain⟨A,cap,M',k1,k2,k3,k4⟩:=(hp.perm ((aW e).1.append_right _)).litS _ Y.szd g1 h3 rfl h5
    obtain⟨rfl,_,rfl⟩:=Value.slice.inj k1
    exact hk _ g2 M' a w (hM.trans k2) hf k3 (.cons k4 (hF.mo k2))
  · exact h.elim}
def lr (j k:Nat) {α:Type} (Y:Ty α) (l:List (α×List Nat)):D P n:=.im {
 ck:=λs kt=>match kget j s.E with
  |some (.obj b (.cells cs T fr))=>.eq fr (0,0) (.eq cs.toList (litV Y s l) (.ok (Nat.ble (l.map (·.1)).length maxLen) (.ok (Nat.beq cs.size ((l.map (·.1)).length*Y.sz)) (litT Y s l
   (kt {s with E:=kput j (.row T Y.sz (.slice (some ⟨b,0,none⟩) (l.map (·.1)).length (l.map (·.1)).length) (l.map (·.1)).length cs.toList) s.E,F:=(k,.seq Y.sz Y.f (l.map (·.1)) cs.toList)::s.F})))))
  |_=>.no
 ok:=λc s kt G h hk=>by
  split at h
  · rename_i b cs T fr e
    obtain⟨rfl,h3,h5,h6,h7⟩:=h
    intro M a w hM hf hp hF
    obtain⟨g1,g2⟩:=lit_ok Y hF h7
    have k1:=(hp.perm ((aW e).1.append_right _)).objR _ Y.sz h6 h5
    exact hk _ g2 M a w hM hf (k1.perm (((aW e).2 _).symm.append_right _)) (.cons ⟨h3▸g1,Y.szd⟩ hF)
  · exact h.elim}
def nr (j k e:Nat) {α:Type} (Y:Ty α):D P n:=.im {
 ck:=λs kt=>kt {s with E:=(j,.row e Y.sz (.slice none 0 0) 0 [])::s.E,F:=(k,.seq Y.sz Y.f ([]:List α) [])::s.F}
 ok:=λc s kt G h hk M a w hM hf hp hF=>hk _ h M a w hM hf (hp.nilRow e Y.sz) (.cons ⟨rfl,Y.szd⟩ hF)}
def argE (P:Program) (t:TypeId):TypeId:=match P.underlying t with|some (.slice e)=>e|_=>0
def argO (o:Oper) (k:Nat):Operand:=match o.op with|.call c=>c.args.getD k (.const undef)|_=>.const undef
def argT (o:Oper) (k:Nat):TypeId:=match o.op with|.call c=>c.argTypes.getD k 0|_=>0
def appT (P:Program) (n:Nat) (ops:Array Oper) (s:St) (o:Oper) (e sz by_:Nat) (v:Value) (t:T):T:=.ok (okO ops n s.L o) (.eq o.op (.call {callee:=.builtin .append,args:=#[argO o 0,argO o 1],argTypes:=#[argT o 0,argT o 1]}) (.eq (ev s.L (argO o 0)) v (.eq (P.underlying (argT o 0)) (some (.slice e)) (.ok (infoIs P e (Vc.zE P e) sz by_&&Nat.ble 1 by_) t))))
def ap (j k0 i k:Nat) {α:Type} (Y:Ty α) {xs ys:List α} {by_:Nat} (hb: (xs.length+ys.length)*by_≤140737488355328):D P n:=.l {
 ck:=λops s o kt _=>match kget j s.E,kget k0 s.F,kget i s.F with
  |some (.row e sz v m cs),some φ,some (.sli sz2 f2 B cB ys2)=>appT P n ops s o e Y.sz by_ v (.eq m xs.length (.eq sz Y.sz (.eq (argT o 1) (argT o 0) (.eqF [φ,.sli sz2 f2 B cB ys2] [.seq Y.sz Y.f xs cs,.sli Y.sz Y.f B cB ys] (.eq (ev s.L (argO o 1)) (.slice B ys.length cB)
   (.all λz:Z=>kt {s with L:=(dstO o,.slice z.A (xs++ys).length z.c)::s.L,E:=kput j (.row e Y.sz (.slice z.A (xs++ys).length z.c) (xs++ys).length z.k) s.E,F:=(k,.seq Y.sz Y.f (xs++ys) z.k)::s.F}))))))
  |_,_,_=>.no
 ok:=λc ops Q s o rest kt kx h hk _=>by
  split at h
  · rename_i e sz v m cs φ β sz2 f2 B cB ys2 e1 e2 e3
    obtain⟨h1,h2,h3,h4,h5,rfl,rfl,h6,h7,h8,h9⟩:=h
    obtain⟨i1,i2,i3,i4⟩:=kC h1
    obtain⟨j1,j2⟩:=Bool.and_eq_true_iff.1 h5
    intro M a w hM hf hp hF
    have l1:=List.cons.inj h7
    have l2:=List.cons.inj l1.2
    have g1: (Fa.seq Y.sz Y.f xs cs).at M:=l1.1▸hF.kget e2
    have g2: (Fa.sli Y.sz Y.f B cB ys).at M:=l2.1▸hF.kget e3
    have hp':=hp.perm ((aW e1).1.append_right _)
    have h63:xs.length+ys.length≤140737488355328:=Nat.le_trans (Nat.le_mul_of_pos_right _ (Nat.le_of_ble_eq_true j2)) hb
    rw[h6] at h2
    refine sg hf hp' g1.1 g2 i1 i2 i3 i4 h2 h3 h8 h4 j1 hb (by omega) λA' c' cs' w' hp2 hr a' ha=>?_
    exact hk _ (h9 {A:=A',c:=c',k:=cs'}) M a' w' hM ha (hp2.perm (((aW e1).2 _).symm.append_right _)) (.cons ⟨hr,Y.szd⟩ hF)
  · exact h.elim}
def apT (j k0 k:Nat) {xs l:Bs} (hb: (xs.length+l.length)*1≤140737488355328):D P n:=.l {
 ck:=λops s o kt _=>match kget j s.E,kget k0 s.F with
  |some (.row e sz v m cs),some φ=>appT P n ops s o e 1 1 v (.eq m xs.length (.eq sz 1 (.eq (P.underlying (argT o 1)) (some .string) (.eqF [φ] [.seq 1 embB xs cs] (.eq (ev s.L (argO o 1)) (S l)
   (.all λz:Z=>kt {s with L:=(dstO o,.slice z.A (xs++l).length z.c)::s.L,E:=kput j (.row e 1 (.slice z.A (xs++l).length z.c) (xs++l).length z.k) s.E,F:=(k,.seq 1 embB (xs++l) z.k)::s.F}))))))
  |_,_=>.no
 ok:=λc ops Q s o rest kt kx h hk _=>by
  split at h
  · rename_i e sz v m cs φ e1 e2
    obtain⟨h1,h2,h3,h4,h5,rfl,rfl,h6,h7,h8,h9⟩:=h
    obtain⟨i1,i2,i3,i4⟩:=kC h1
    obtain⟨j1,j2⟩:=Bool.and_eq_true_iff.1 h5
    intro M a w hM hf hp hF
    have g1: (Fa.seq 1 embB xs cs).at M:=(List.cons.inj h7).1▸hF.kget e2
    have hp':=hp.perm ((aW e1).1.append_right _)
    refine W_appendT hf hp' g1.1 i1 i2 i3 i4 h2 h3 h8 h4 h6 j1 hb (by omega) λA' c' cs' w' hp2 hr a' ha=>?_
    exact hk _ (h9 {A:=A',c:=c',k:=cs'}) M a' w' hM ha (hp2.perm (((aW e1).2 _).symm.append_right _)) (.cons ⟨hr,szd_byte⟩ hF)
  · exact h.elim}
def S1 (j:Nat):D P n:=.l {
 ck:=λops s o kt _=>match kget j s.E with
  |some (.obj b (.cells cs T fr))=>
   let off:=offV (ev s.L (stX o))
   let vs:=match o.op with
    |.store t _ _=>bif one1 P t then [ev s.L (stY o)] else(match ev s.L (stY o) with
     |.agg xs=>xs.toList
     |_=>[])
    |_=>[]
   .eq (ev s.L (stX o)) (.pointer (some ⟨b,off,none⟩)) (.and (.all λX:List Ent=>.eq (okSt P ops s.L o (.obj b (.cells cs T fr)::X) 0 off vs) true .done)
    (.ok (match vs with
     |[_]=>true
     |_=>false) (.eq (ev s.L (stY o)) (vs.headD undef) (kt {s with E:=kput j (.obj b (.cells (setL cs.toList off vs).toArray T fr)) s.E}))))
  |_=>.no
 ok:=λc ops Q s o rest kt kx h hk _=>by
  split at h
  · rename_i b cs T fr e
    dsimp only at h
    generalize offV (ev s.L (stX o))=off at h
    generalize (match o.op with
     |.store t _ _=>bif one1 P t then [ev s.L (stY o)] else(match ev s.L (stY o) with
      |.agg xs=>xs.toList
      |_=>[])
     |_=>[])=vs at h
    obtain⟨h1,h2,h3,h4,h5⟩:=h
    intro M a w hM hf hp hF
    have hp':=hp.perm ((aW e).1.append_right _)
    match vs,h3 with
    |[v],_=>
     exact Wt hf hp' 0 off v (λw' hp2 a' ha=>hk _ h5 M a' w' hM ha (hp2.perm (((aW e).2 _).symm.append_right _)) hF) (h2 _).1 h1 h4
  · exact h.elim}
def Sn (j:Nat):D P n:=.l {
 ck:=λops s o kt _=>match kget j s.E,ev s.L (stY o) with
  |some (.obj b (.cells cs T fr)),.agg vs=>
   .eq (ev s.L (stX o)) (.pointer (some ⟨b,offV (ev s.L (stX o)),none⟩)) (.and (.all λX:List Ent=>.eq (okSt P ops s.L o (.obj b (.cells cs T fr)::X) 0 (offV (ev s.L (stX o))) vs.toList) true .done)
    (kt {s with E:=kput j (.obj b (.cells (setL cs.toList (offV (ev s.L (stX o))) vs.toList).toArray T fr)) s.E}))
  |_,_=>.no
 ok:=λc ops Q s o rest kt kx h hk _=>by
  split at h
  · rename_i b cs T fr vs e e2
    obtain⟨h1,h2,h5⟩:=h
    intro M a w hM hf hp hF
    have hp':=hp.perm ((aW e).1.append_right _)
    exact Wu hf hp' 0 _ vs.toList (λw' hp2 a' ha=>hk _ h5 M a' w' hM ha (hp2.perm (((aW e).2 _).symm.append_right _)) hF) (h2 _).1 h1 (by rw[e2,Array.toArray_toList])
  · exact h.elim}
def Re (j k i:Nat) {α:Type} (Y:Ty α) {xs:List α} {it:Int} {x:α} (hx:aq xs it=some x):D P n:=.im {
 ck:=λs kt=>match kget j s.E,kget k s.F with
  |some (.row e sz (.slice A m c) m' cs),some φ=>.eqF [φ] [.seq Y.sz Y.f xs cs] (.eq m xs.length (.eq m' xs.length (.all λb:Nat=>.all λz=>kt {s with F:=(i,.re A b cs (it.toNat*Y.sz) (Y.cells x z))::(i+1,.ix A it xs.length ⟨b,0,none⟩)::(nums (i+2) (Y.facts x z)++s.F)})))
  |_,_=>.no
 ok:=λc s kt G h hk=>by
  split at h
  · rename_i e sz A m cc m' cs φ e1 e2
    obtain⟨h1,rfl,rfl,h4⟩:=h
    intro M a w hM hf hp hF
    have g1: (Fa.seq Y.sz Y.f xs cs).at M:=(List.cons.inj h1).1▸hF.kget e2
    have hp':=hp.perm ((aW e1).1.append_right _)
    obtain⟨b,cap,k1,_⟩:=hp'.rowAddr 0 rfl (sv hx)
    obtain⟨rfl,_,_⟩:=Value.slice.inj k1
    obtain⟨c',_,e3,e4⟩:=au.get it.toNat (jt Y.szd) g1.1 (vl hx)
    obtain⟨z,rfl,e5⟩:=Y.opn e3
    refine hk _ (h4 b z) M a w hM hf hp (.cons ⟨rfl,e4⟩ (.cons ⟨rfl,lZ hx,lY hx⟩ ?_))
    show Fh M (vals (_++_))
    rw[show vals (nums (i+2) (Y.facts x z)++s.F)=Y.facts x z++vals s.F from(List.map_append ..).trans (congrArg (· ++_) (gb _ _))]
    exact e5.app hF
  · exact h.elim}
def Rd (j i off:Nat):D P n:=.q {
 v:=λs o=>match kget i s.F with
  |some (.re _ _ _ _ c)=>ldV P o off c
  |_=>undef
 ck:=λs o=>match kget j s.E,kget i s.F with
  |some (.row e sz (.slice A m c) m' cs),some (.re A' b cs' k c')=>.eq A A' (.eq cs cs' (.ok (okLd P o off c') (.eq (ev s.L (ldX o)) (.pointer (some (((⟨b,0,none⟩:Addr).add k).add off))) .done)))
  |_,_=>.no
 ok:=λs o h {w0 M H w} hp hF=>by
  split at h
  · rename_i e sz A m cc m' cs A' b cs' k c' e1 e2
    obtain⟨rfl,rfl,h3,h4,_⟩:=h
    obtain⟨g1,g2⟩:=hF.kget e2
    subst g1
    have hp':=hp.perm ((aW e1).1.append_right _)
    rw[e2]
    exact XL (λj v h=>row_at (hp'.rowCell 0 rfl rfl) g2 j v h) off h4 h3
  · exact h.elim}
def rspL (ss:List Nat) (v':Value) (L:Fr):Fr:=ss.map (λt=>(t,v'))++L
def rspE (v':Value):List (Nat×Nat)→Es→Es|[],E=>E|(j,q)::r,E=>rspE v' r (match kget j E with|some (.obj b (.cells cs T fr))=>kput j (.obj b (.cells (setL cs.toList q [v']).toArray T fr)) E|_=>E)
def rspT (v:Value) (L:Fr):List Nat→T→T|[],t=>t|k::r,t=>.eq (Vc.look L k) (some v) (rspT v L r t)
def rspU (v:Value) (v':Value):List (Nat×Nat)→Es→T→T|[],_,t=>t|(j,q)::r,E,t=>match kget j E with|some (.obj b (.cells cs T fr))=>.eq (cs.toList[q]?) (some v) (rspU v v' r (kput j (.obj b (.cells (setL cs.toList q [v']).toArray T fr)) E) t)|_=>.no
theorem yT {α:Type _} {k:Nat} {x:α}: ∀ {l:List (Nat×α)},kget k l=some x→vals (kput k x l)=vals l
 |[],h=>by cases h
 |(j,y)::r,h=>by
  unfold kget at h
  unfold kput
  cases hb:Nat.beq j k with
  |true=>rw[hb] at h;cases h;rfl
  |false=>rw[hb] at h;exact congrArg (y:: ·) (yT h)
theorem setL_same {cs:Lv} {q:Nat} {v:Value} (h:cs[q]? =some v):setL cs q [v]=cs:=by
 induction cs generalizing q with
 |nil=>simp at h
 |cons c cs ih=>cases q with
  |zero=>simp only[List.getElem?_cons_zero,Option.some.injEq] at h;subst h;simp[setL,setL_nil]
  |succ q=>simp only[List.getElem?_cons_succ] at h;simp only[setL];rw[ih h]
theorem rsp_L {v v':Value} (e:v=v') {L:Fr} {a:Act} {dd:List Deferred} {t:T}: ∀ {ss:List Nat},(rspT v L ss t).holds→Frm n L a dd→Frm n (rspL ss v' L) a dd∧t.holds
 |[],h,hf=>⟨hf,h⟩
 |k::r,h,hf=>by
  obtain⟨g1,g2⟩:=rsp_L e h.2 hf
  refine⟨⟨g1.size,g1.defers,λj u hu=>?_⟩,g2⟩
  unfold rspL at hu
  simp only[List.map_cons,List.cons_append] at hu
  unfold Vc.look at hu
  cases hb:Nat.beq k j with
  |true=>
   rw[hb] at hu
   obtain rfl:=Nat.eq_of_beq_eq_true hb
   cases hu
   exact hf.at_ k _ (e▸h.1)
  |false=>rw[hb] at hu;exact g1.at_ j u hu
theorem rsp_E {v v':Value} (e:v=v') {t:T}: ∀ {l:List (Nat×Nat)} {E:Es},(rspU v v' l E t).holds→vals (rspE v' l E)=vals E∧t.holds
 |[],E,h=>⟨rfl,h⟩
 |(j,q)::r,E,h=>by
  unfold rspU at h
  split at h
  ·rename_i b cs T fr he
   obtain⟨h1,h2⟩:=h
   obtain⟨g1,g2⟩:=rsp_E e h2
   unfold rspE
   rw[he]
   refine⟨g1.trans ?_,g2⟩
   have:setL cs.toList q [v']=cs.toList:=setL_same (e▸h1)
   rw[this,Array.toArray_toList]
   exact yT he
  exact h.elim
def rsp (j:Nat) (m m':Nat) (ss:List Nat) (bs:List (Nat×Nat)) (s:St) (k:Oa→Nat→St→T):T:=match kget j s.E with|some (.row _ _ (.slice A _ c) _ _)=>rspT (.slice A m c) s.L ss (rspU (.slice A m c) (.slice A m' c) bs s.E (k A c {s with L:=rspL ss (.slice A m' c) s.L,E:=rspE (.slice A m' c) bs s.E}))|_=>.no
theorem rsp_ok {j m m':Nat} {ss:List Nat} {bs:List (Nat×Nat)} {s:St} {k:Oa→Nat→St→T} (e:m=m') (h: (rsp j m m' ss bs s k).holds) {a:Act} {w0 w:World} {M:Mem} {H:List Ent} (hf:Frm n s.L a s.D) (hp:Hp w0 M (vals s.E++H) w):
 ∃A c s1,s1.B=s.B∧s1.F=s.F∧Frm n s1.L a s1.D∧Hp w0 M (vals s1.E++H) w∧(k A c s1).holds:=by
 unfold rsp at h
 split at h
 ·rename_i e1 sz A m1 c m2 cs he
  obtain⟨g1,g2⟩:=rsp_L (v':=.slice A m' c) (by rw[e]) h hf
  obtain⟨g3,g4⟩:=rsp_E (v':=.slice A m' c) (by rw[e]) g2
  exact⟨A,c,{s with L:=rspL ss (.slice A m' c) s.L,E:=rspE (.slice A m' c) bs s.E},rfl,rfl,g1,by show Hp w0 M (vals (rspE _ bs s.E)++H) w;rw[g3];exact hp,g4⟩
 exact h.elim
def Sr (j k0 i k:Nat) {α:Type} (Y:Ty α) {xs:List α} {it:Int} {x0:α} (hx:aq xs it=some x0) (xv:α) (is:List Nat) (ss:List Nat) (bs:List (Nat×Nat):=[]):D P n:=.l {
 ck:=λops s0 o kt _=>rsp j xs.length (xs.set it.toNat xv).length ss bs s0 λA c s=>match kget j s.E,kget k0 s.F,kget i s.F with
  |some (.row e sz v m cs),some φ,some (.ix A' it' len ad)=>
   .ok (okStR P ops s.L o Y.sz) (.eq sz Y.sz (.eq v (.slice A xs.length c) (.eq m xs.length (.eqF [φ] [.seq Y.sz Y.f xs cs] (.eq A A'
    (.eq (ev s.L (stX o)) (.pointer (some (ad.add (it.toNat*Y.sz)))) (.eq (ev s.L (stY o)) (bif Nat.beq Y.sz 1 then undef else Y.ag xv (zsOf s is [])) (.eqF (kall is s.F) (Y.facts xv (zsOf s is []))
    (.ok (!Nat.beq Y.sz 1) (.all λcs'=>kt {s with E:=kput j (.row e Y.sz (.slice A (xs.set it.toNat xv).length c) (xs.set it.toNat xv).length cs') s.E,F:=(k,.seq Y.sz Y.f (xs.set it.toNat xv) cs')::s.F}))))))))))
  |_,_,_=>.no
 ok:=λc0 ops Q s0 o rest kt kx h hk _=>by
  intro M a w hM hf0 hp0 hF0
  obtain⟨A,c,s,hsB,hsF,hf,hp,h⟩:=rsp_ok (by rw[List.length_set]) h hf0 hp0
  rw[←hsB] at hp
  have hF:Fh M (vals s.F):=by rw[hsF];exact hF0
  split at h
  · rename_i e sz v m cs φ A' it' len ad e1 e2 e3
    obtain⟨h1,rfl,rfl,rfl,h5,rfl,h7,h8,h9,h10,h11⟩:=h
    have g1: (Fa.seq Y.sz Y.f xs cs).at M:=(List.cons.inj h5).1▸hF.kget e2
    obtain⟨g2,_,_⟩:=hF.kget e3
    have hp':=hp.perm ((aW e1).1.append_right _)
    obtain⟨b,cap,k1,_⟩:=hp'.rowAddr 0 rfl (sv hx)
    obtain⟨k2,_,_⟩:=Value.slice.inj k1
    rw[k2] at g2
    obtain rfl:=Option.some.inj g2
    have hne:Nat.beq Y.sz 1=false:=by simpa using h10
    rw[hne,cond_false] at h8
    refine Wr hf hp' (by rw[k2]) (Y.shut (h9▸hF.kall is)) Y.szd hx g1.1 (λcs' w' hp2 hr hl a' ha=>?_) h1 h7 h8
    rw[hl] at hp2
    exact hk _ (h11 cs') M a' w' hM ha (hp2.perm (((aW e1).2 _).symm.append_right _)) (.cons ⟨hr,Y.szd⟩ hF)
  · exact h.elim}
def Sr1 (j k0 i k:Nat) {α:Type} (Y:Ty α) {xs:List α} {it:Int} {x0:α} (hx:aq xs it=some x0) (xv:α) (is:List Nat) (ss:List Nat) (bs:List (Nat×Nat):=[]):D P n:=.l {
 ck:=λops s0 o kt _=>rsp j xs.length (xs.set it.toNat xv).length ss bs s0 λA c s=>match kget j s.E,kget k0 s.F,kget i s.F with
  |some (.row e sz v m cs),some φ,some (.ix A' it' len ad)=>
   .ok (okStR P ops s.L o 1) (.eq sz 1 (.eq v (.slice A xs.length c) (.eq m xs.length (.eqF [φ] [.seq Y.sz Y.f xs cs] (.eq A A'
    (.eq (ev s.L (stX o)) (.pointer (some (ad.add (it.toNat*1)))) (.eq [ev s.L (stY o)] (Y.cells xv (zsOf s is [])) (.eqF (kall is s.F) (Y.facts xv (zsOf s is []))
    (.eq Y.sz 1 (kt {s with E:=kput j (.row e 1 (.slice A (xs.set it.toNat xv).length c) (xs.set it.toNat xv).length (cs.set it.toNat (ev s.L (stY o)))) s.E,F:=(k,.seq Y.sz Y.f (xs.set it.toNat xv) (cs.set it.toNat (ev s.L (stY o))))::s.F}))))))))))
  |_,_,_=>.no
 ok:=λc0 ops Q s0 o rest kt kx h hk _=>by
  intro M a w hM hf0 hp0 hF0
  obtain⟨A,c,s,hsB,hsF,hf,hp,h⟩:=rsp_ok (by rw[List.length_set]) h hf0 hp0
  rw[←hsB] at hp
  have hF:Fh M (vals s.F):=by rw[hsF];exact hF0
  split at h
  · rename_i e sz v m cs φ A' it' len ad e1 e2 e3
    obtain⟨h1,rfl,rfl,rfl,h5,rfl,h7,h8,h9,h10,h11⟩:=h
    have g1: (Fa.seq Y.sz Y.f xs cs).at M:=(List.cons.inj h5).1▸hF.kget e2
    obtain⟨g2,_,_⟩:=hF.kget e3
    have hp':=hp.perm ((aW e1).1.append_right _)
    obtain⟨b,cap,k1,_⟩:=hp'.rowAddr 0 rfl (sv hx)
    obtain⟨k2,_,_⟩:=Value.slice.inj k1
    rw[k2] at g2
    obtain rfl:=Option.some.inj g2
    have hz: ∀x,Szd 1 (Y.f x):=h10▸Y.szd
    have hs:=Y.shut (h9▸hF.kall is)
    rw[←h8] at hs
    unfold okStR at h1
    simp only[Bool.and_eq_true] at h1
    obtain⟨⟨⟨i1,i2⟩,i3⟩,i4⟩:=h1
    split at i1
    · rename_i i1'
      split at i4
      · rename_i t x y he
        have hx':ev s.L x=.pointer (some ((⟨b,0,none⟩:Addr).add (it.toNat*1))):=by simpa [stX,he] using h7
        have hy':ev s.L y=ev s.L (stY o):=by simp[stY,he]
        refine W_rowstore hf hp' (by rw[k2]) i1' i2 (by simpa using i3) he hx' hy' hs i4 hz hx g1.1 λw' hp2 hr a' ha=>?_
        have hp3:Hp c0.w0 M (.row e 1 (.slice A (xs.set it.toNat xv).length c) (xs.set it.toNat xv).length (cs.set it.toNat (ev s.L (stY o)))::(vals (kdel j s.E)++(s.B++c0.H))) w':=hp2.rowVal (by simp only[List.length_set])
        exact hk _ h11 M a' w' hM ha (hp3.perm (((aW e1).2 _).symm.append_right _)) (.cons ⟨hr,h10▸Y.szd⟩ hF)
      · cases i4
    · cases i1
  · exact h.elim}
def intV:Value→Int|.int _ i=>i|_=>0
def bnT (o:Oper):TypeId:=match o.op with|.binOp _ t _ _ _=>t|_=>0
def bnU (o:Oper):TypeId:=match o.op with|.binOp _ _ _ _ t=>t|_=>0
def bnX (o:Oper):Operand:=match o.op with|.binOp _ _ x _ _=>x|_=>.const undef
def bnY (o:Oper):Operand:=match o.op with|.binOp _ _ _ y _=>y|_=>.const undef
def isBin (b:BinOp) (o:Oper) (t:T):T:=.eq o.op (.binOp b (bnT o) (bnX o) (bnY o) (bnU o)) t
def cat {l m:Bs} (h:l.length+m.length≤9223372036854775807):D P n:=.q {
 v:=λ_ _=>S (l++m)
 ck:=λs o=>isBin .add o (.eq (ev s.L (bnX o)) (S l) (.eq (ev s.L (bnY o)) (S m) .done))
 ok:=λs o hh {w0 M H w} hp hF=>X_concat hh.1 hh.2.1 hh.2.2.1 h}
def rem {b:Int} (h:b≠0):D P n:=.q {
 v:=λs o=>.int (kindV (ev s.L (bnX o))) ((intV (ev s.L (bnX o))).tmod b)
 ck:=λs o=>isBin .rem o (.eq (ev s.L (bnX o)) (.int (kindV (ev s.L (bnX o))) (intV (ev s.L (bnX o)))) (.eq (ev s.L (bnY o)) (.int (kindV (ev s.L (bnX o))) b) .done))
 ok:=λs o hh {w0 M H w} hp hF=>X_rem hh.1 hh.2.1 hh.2.2.1 h}
def quo {a b:Int} {k:IntKind} (h:b≠0) (hr:inR k (a.tdiv b)):D P n:=.q {
 v:=λs o=>.int k (a.tdiv b)
 ck:=λs o=>isBin .quo o (.eq (ev s.L (bnX o)) (.int k a) (.eq (ev s.L (bnY o)) (.int k b) .done))
 ok:=λs o hh {w0 M H w} hp hF=>X_quo hh.1 hh.2.1 hh.2.2.1 h hr}
def ixT (o:Oper):TypeId:=match o.op with|.index t _ _=>t|_=>0
def ixX (o:Oper):Operand:=match o.op with|.index _ x _=>x|_=>.const undef
def ixY (o:Oper):Operand:=match o.op with|.index _ _ y=>y|_=>.const undef
def si {l:Bs} {it:Int} {c:UInt8} (hx:aq l it=some c):D P n:=.q {
 v:=λ_ _=>.int .u8 (c.toNat:Int)
 ck:=λs o=>.eq o.op (.index (ixT o) (ixX o) (ixY o)) (.eq (ev s.L (ixX o)) (S l) (.eq (ev s.L (ixY o)) (.int (kindV (ev s.L (ixY o))) it) (.eq (P.underlying (ixT o)) (some .string) .done)))
 ok:=λs o hh {w0 M H w} hp hF=>by
  have:=X_strIndex (w:=w) hh.1 hh.2.1 hh.2.2.1 hh.2.2.2.1 (lZ hx) (lY hx)
  rw[getI_getD hx] at this
  exact this}
def slT (o:Oper):TypeId:=match o.op with|.slice t _ _ _ _=>t|_=>0
def slX (o:Oper):Operand:=match o.op with|.slice _ x _ _ _=>x|_=>.const undef
def slA (o:Oper):Operand:=match o.op with|.slice _ _ (some a) _ _=>a|_=>.const undef
def slB (o:Oper):Operand:=match o.op with|.slice _ _ _ (some b) _=>b|_=>.const undef
def slC (o:Oper):Operand:=match o.op with|.slice _ _ _ _ (some c)=>c|_=>.const undef
def slF (o:Oper) (t:T):T:=.eq o.op (.slice (slT o) (slX o) (some (slA o)) none none) t
def slG (o:Oper) (t:T):T:=.eq o.op (.slice (slT o) (slX o) none (some (slB o)) none) t
def tF {l:Bs} {a:Int} (h:0≤a∧a≤l.length):D P n:=.q {
 v:=λ_ _=>S (l.drop a.toNat)
 ck:=λs o=>slF o (.eq (ev s.L (slX o)) (S l) (.eq (ev s.L (slA o)) (.int (kindV (ev s.L (slA o))) a) (.eq (P.underlying (slT o)) (some .string) .done)))
 ok:=λs o hh {w0 M H w} hp hF=>X_strFrom hh.1 hh.2.1 hh.2.2.1 hh.2.2.2.1 h.1 h.2}
def tG {l:Bs} {b:Int} (h:0≤b∧b≤l.length):D P n:=.q {
 v:=λ_ _=>S (l.take b.toNat)
 ck:=λs o=>slG o (.eq (ev s.L (slX o)) (S l) (.eq (ev s.L (slB o)) (.int (kindV (ev s.L (slB o))) b) (.eq (P.underlying (slT o)) (some .string) .done)))
 ok:=λs o hh {w0 M H w} hp hF=>X_strTo hh.1 hh.2.1 hh.2.2.1 hh.2.2.2.1 h.1 h.2}
def cF (k i:Nat) {α:Type} (Y:Ty α) {xs:List α} {a:Int} (h:0≤a∧a≤xs.length):D P n:=.l {
 ck:=λops s o kt _=>match kget k s.F with
  |some (.sli sz f A c ys)=>.ok (okO ops n s.L o) (slF o (.eqF [.sli sz f A c ys] [.sli Y.sz Y.f A c xs] (.eq (ev s.L (slX o)) (.slice A xs.length c) (.eq (ev s.L (slA o)) (.int (kindV (ev s.L (slA o))) a) (.eq (P.underlying (slT o)) (some (.slice (argE P (slT o)))) (.ok (szIs P (argE P (slT o)) Y.sz)
   (kt {s with L:=(dstO o,.slice (cutA A Y.sz a.toNat c) (xs.drop a.toNat).length (c-a.toNat))::s.L,F:=(i,.sli Y.sz Y.f (cutA A Y.sz a.toNat c) (c-a.toNat) (xs.drop a.toNat))::s.F})))))))
  |_=>.no
 ok:=λc0 ops Q s o rest kt kx hh hk _=>by
  split at hh
  · rename_i β sz f A c ys e
    obtain⟨h1,h2,h3,h4,h5,h6,h7,h8⟩:=hh
    intro M a0 w hM hf hp hF
    have g: (Fa.sli Y.sz Y.f A c xs).at M:=(List.cons.inj h3).1▸hF.kget e
    have hx:=zt (w:=w) h2 h4 h5 h6 h7 h.1 h.2
    rw[show xs.length-a.toNat=(xs.drop a.toNat).length by rw[List.length_drop]] at hx
    exact ku hf h1 hx λa' hf'=>hk _ h8 M a' w hM hf' hp (.cons (Sli.cutFrom g (by omega)) hF)
  · exact hh.elim}
def cG (k i:Nat) {α:Type} (Y:Ty α) {xs:List α} {b:Int} (h:0≤b∧b≤xs.length):D P n:=.l {
 ck:=λops s o kt _=>match kget k s.F with
  |some (.sli sz f A c ys)=>.ok (okO ops n s.L o) (slG o (.eqF [.sli sz f A c ys] [.sli Y.sz Y.f A c xs] (.eq (ev s.L (slX o)) (.slice A xs.length c) (.eq (ev s.L (slB o)) (.int (kindV (ev s.L (slB o))) b) (.eq (P.underlying (slT o)) (some (.slice (argE P (slT o)))) (.ok (szIs P (argE P (slT o)) Y.sz)
   (kt {s with L:=(dstO o,.slice (cutA A Y.sz 0 c) ((xs.take b.toNat).drop 0).length c)::s.L,F:=(i,.sli Y.sz Y.f (cutA A Y.sz 0 c) (c-0) ((xs.take b.toNat).drop 0))::s.F})))))))
  |_=>.no
 ok:=λc0 ops Q s o rest kt kx hh hk _=>by
  split at hh
  · rename_i β sz f A c ys e
    obtain⟨h1,h2,h3,h4,h6,h7,h8,h9⟩:=hh
    intro M a0 w hM hf hp hF
    have g: (Fa.sli Y.sz Y.f A c xs).at M:=(List.cons.inj h3).1▸hF.kget e
    have hl:=Sli.len g
    have hx:=X_sliceTo (w:=w) h2 h4 h6 h7 h8 h.1 (by omega)
    have e1:b.toNat=((xs.take b.toNat).drop 0).length:=by rw[List.length_drop,List.length_take];omega
    refine ku (v:=.slice (cutA A Y.sz 0 c) ((xs.take b.toNat).drop 0).length c) hf h1 (by rw[←e1];exact hx) λa' hf'=>hk _ h9 M a' w hM hf' hp (.cons (Sli.cut g (by omega) (by omega)) hF)
  · exact hh.elim}
def cvT (o:Oper):TypeId:=match o.op with|.convert t _ _=>t|_=>0
def cvU (o:Oper):TypeId:=match o.op with|.convert _ t _=>t|_=>0
def cvX (o:Oper):Operand:=match o.op with|.convert _ _ x=>x|_=>.const undef
def tyS (P:Program) (o:Oper) (t:T):T:=.eq o.op (.convert (cvT o) (cvU o) (cvX o)) (.eq (P.underlying (cvT o)) (some (.slice (argE P (cvT o)))) (.eq (P.underlying (argE P (cvT o))) (some (.int .u8)) (.eq (P.underlying (cvU o)) (some .string) t)))
def sW (j k:Nat) (l:Bs):D P n:=.q {
 v:=λ_ _=>S l
 ck:=λs o=>match kget j s.E,kget k s.F with
  |some (.row e sz v m cs),some φ=>tyS P o (.eq e (argE P (cvT o)) (.eq sz 1 (.eq m l.length (.eqF [φ] [.seq 1 embB l cs] (.eq (ev s.L (cvX o)) v .done)))))
  |_,_=>.no
 ok:=λs o hh {w0 M H w} hp hF=>by
  split at hh
  · rename_i e sz v m cs φ e1 e2
    obtain⟨h1,h2,h3,h4,rfl,rfl,rfl,h7,h8,_⟩:=hh
    have g: (Fa.seq 1 embB l cs).at M:=(List.cons.inj h7).1▸hF.kget e2
    have hp':=hp.perm ((aW e1).1.append_right _)
    have h0:=hp'.rowAt 0 rfl
    rw[au.bytes_eq g.1] at h0
    exact X_string_row h1 h8 h2 h3 h4 h0
  · exact hh.elim}
def mn:D P n:=.q {
 v:=λs o=>.int (kindV (ev s.L (argO o 0))) (min (intV (ev s.L (argO o 0))) (intV (ev s.L (argO o 1))))
 ck:=λs o=>.eq o.op (.call {callee:=.builtin .min,args:=#[argO o 0,argO o 1],argTypes:=#[argT o 0,argT o 1]}) (.eq (ev s.L (argO o 0)) (.int (kindV (ev s.L (argO o 0))) (intV (ev s.L (argO o 0)))) (.eq (ev s.L (argO o 1)) (.int (kindV (ev s.L (argO o 0))) (intV (ev s.L (argO o 1)))) .done))
 ok:=λs o hh {w0 M H w} hp hF=>X_min hh.1 hh.2.1 hh.2.2.1}
def mx:D P n:=.q {
 v:=λs o=>.int (kindV (ev s.L (argO o 0))) (max (intV (ev s.L (argO o 0))) (intV (ev s.L (argO o 1))))
 ck:=λs o=>.eq o.op (.call {callee:=.builtin .max,args:=#[argO o 0,argO o 1],argTypes:=#[argT o 0,argT o 1]}) (.eq (ev s.L (argO o 0)) (.int (kindV (ev s.L (argO o 0))) (intV (ev s.L (argO o 0)))) (.eq (ev s.L (argO o 1)) (.int (kindV (ev s.L (argO o 0))) (intV (ev s.L (argO o 1)))) .done))
 ok:=λs o hh {w0 M H w} hp hF=>X_max hh.1 hh.2.1 hh.2.2.1}
def lkT (o:Oper):TypeId:=match o.op with|.lookup t _ _ _=>t|_=>0
def lkX (o:Oper):Operand:=match o.op with|.lookup _ x _ _=>x|_=>.const undef
def lkY (o:Oper):Operand:=match o.op with|.lookup _ _ y _=>y|_=>.const undef
def mapK (P:Program) (t:TypeId):TypeId×TypeId:=match P.underlying t with|some (.map k e)=>(k,e)|_=>(0,0)
def lendS:List (Nat×Nat×Nat)→St→(St→T)→T|[],s,k=>k s|(j,q,t)::r,s,k=>match kget j s.E,kget q s.F with|some (.row e sz (.slice A m c) m' cs),some (.seq sz' f xs cs')=>.eq m xs.length (.eq m' xs.length (.eq sz sz' (.eq cs cs' (lendS r {s with E:=kdel j s.E,F:=(t,.sli sz' f A c xs)::s.F} k))))|_,_=>.no
theorem lendS_ok {w w0:World} {H:List Ent} {k:St→T}: ∀ {l:List (Nat×Nat×Nat)} {s:St},(lendS l s k).holds→∀ {M:Mem},Hp w0 M (vals s.E++H) w→Fh M (vals s.F)→
 ∃s1 M1,s1.B=s.B∧s1.L=s.L∧s1.D=s.D∧(k s1).holds∧M.le M1∧Hp w0 M1 (vals s1.E++H) w∧Fh M1 (vals s1.F)∧∀M' w',M1.le M'→Hp w0 M' (vals s1.E++H) w'→∃M2,M.le M2∧Hp w0 M2 (vals s.E++H) w'
 |[],s,h,M,hp,hF=>⟨s,M,rfl,rfl,rfl,h,Mem.le_refl M,hp,hF,λM' w' g1 g2=>⟨M',g1,g2⟩⟩
 |(j,q,t)::r,s,h,M,hp,hF=>by
  unfold lendS at h
  split at h
  ·rename_i e sz A m cc m' cs α sz' f xs cs' e1 e2
   obtain⟨rfl,rfl,rfl,rfl,h⟩:=h
   obtain⟨g1,g2⟩:=hF.kget e2
   have hp':=hp.perm ((aW e1).1.append_right _)
   obtain⟨M1,A',c',k1,k2,k3,k4,k5⟩:=Hp.lend (xs:=xs) hp' g2 g1
   obtain⟨rfl,_,rfl⟩:=Value.slice.inj k2
   obtain⟨s1,M2,iB,i1,i2,i3,i4,i5,i6,i7⟩:=lendS_ok h k3 (.cons k4 (hF.mo k1))
   refine⟨s1,M2,iB,i1,i2,i3,k1.trans i4,i5,i6,λM' w' j1 j2=>?_⟩
   obtain⟨M3,l1,l2⟩:=i7 M' w' j1 j2
   obtain⟨M4,l3,l4⟩:=k5 M3 _ w' l1 l2
   exact⟨M4,l3,l4.perm ((aW e1).1.symm.append_right _)⟩
  exact h.elim
def CL {α:Type} {F:Zs→List Fa} {f:FuncId} {args:Zs→Lv} {g:Option α} {v:Zs→α→Value} (hc: ∀z,OkC P (F z) [] f (args z) g (λx _=>⟨v z x,[],[]⟩)) {x:α} (hx:g=some x) (is:List Nat) (ls:List (Nat×Nat×Nat)):D P n:=.l {
 ck:=λops s0 o k _=>lendS ls s0 λs=>.ok (okO ops n s.L o) (.and (.all λw=>.eq ((execOp (ev s.L) o).run P w) (.ok (.enter f (args (zsOf s is [])).toArray) w) .done) (.eqF (kall is s.F) (F (zsOf s is []))
     (k {s0 with L:=(dstO o,v (zsOf s is []) x)::s0.L})))
 ok:=λc ops Q s0 o rest k kx h hk _=>by
  intro M a w hM hf hp hF
  obtain⟨s,M1,iB,i1,i2,⟨h1,h2,h3,h5⟩,i4,i5,i6,i7⟩:=lendS_ok h hp hF
  generalize zsOf s is []=z0 at*
  rw[←i1,←i2] at hf
  have hF':Fh M1 (F z0):=h3▸i6.kall is
  refine V_okH (E:=[]) hf i5 (hc z0 M1 hF' x hx) h1 (λw=>(h2 w).1) λu M' E' w' hM' hp2 ⟨z,e1,e2,e3⟩ a' hf'=>?_
  subst e1;subst e2
  obtain⟨M2,l1,l2⟩:=i7 M' w' hM' hp2
  rw[i1,i2] at hf'
  exact hk _ h5 M2 a' w' (hM.trans l1) hf' l2 (hF.mo l1)}
def hl (j:Nat) {m m':Nat} (h:m=m') (ss:List Nat) (bs:List (Nat×Nat):=[]):D P n:=.im {
 ck:=λs k=>rsp j m m' ss bs s λ_ _ s'=>k s'
 ok:=λc s k G hh hk M a w hM hf hp hF=>by
  obtain⟨A,c',s1,hB,h1,h2,h3,h4⟩:=rsp_ok h hh hf hp
  rw[←hB] at h3
  exact hk _ h4 M a w hM h2 h3 (by rw[h1];exact hF)}
variable {P:Program} {ρ:Type} {M:Mem} {f:FuncId} {args:Lv}
theorem Ok.toH {Post:Mem→Value→Prop} (h:Ok P M f args Post):OkH P M [] f args λM' E' v=>E'=[]∧Post M' v:=λM2 hM w0 H w hp=>
 (h M2 hM w0 H w hp).mono λe w' ⟨v,h1,M',h2,h3,h4⟩=>⟨v,h1,M',[],h2,h3,rfl,h4⟩
theorem OkH.to {E:List Ent} {Post Post':Mem→List Ent→Value→Prop} (h:OkH P M E f args Post) (hi: ∀M' E' v,Post M' E' v→Post' M' E' v):OkH P M E f args Post':=λM2 hM w0 H w hp=>
 (h M2 hM w0 H w hp).mono λe w' ⟨v,h1,M',E',h2,h3,h4⟩=>⟨v,h1,M',E',h2,h3,hi _ _ _ h4⟩
theorem Ok.turnL {α:Type} {sz:Nat} {g:α→Dat} {r:List α} (h:Ok P M f args λM' u=>∃ (A:Oa) (k:Nat),u=.slice A r.length k∧Sli M' sz g A k r):OkH P M [] f args λM' E' u=>∃z:Zs,u=(z 0).sl r.length∧E'=[]∧Fh M' [.sli sz g (z 0).A (z 0).c r]:=
 OkH.to (Ok.toH h) λM' E' u ⟨h1,A,k,h2,h3⟩=>⟨λ_=>{A:=A,c:=k},h2,h1,Fh.one h3⟩
theorem OkC.back {F:List Fa} {g:Option ρ} {v:ρ→Value} {r:ρ} (h:OkC P F [] f args g λr _=>⟨v r,[],[]⟩) (hF:Fh M F) (hr:g=some r):Ok P M f args λ_ u=>u=v r:=λM2 hM w0 H w hp=>
 (h M hF r hr M2 hM w0 H w hp).mono λe w' ⟨u,h1,M',E',h2,h3,z,h4,h5,_⟩=>by subst h5;exact⟨u,h1,M',h2,h3,h4⟩
def rs {n:Nat} (t:Nat) {v v':Value} (h:v=v'):D P n:=.im {
 ck:=λs k=>.eq (Vc.look s.L t) (some v) (k {s with L:=(t,v')::s.L})
 ok:=λc s k G hh hk M a w hM hf hp hF=>by
  obtain⟨h1,h2⟩:=hh
  subst h
  refine hk _ h2 M a w hM ⟨hf.size,hf.defers,λj u hu=>?_⟩ hp hF
  unfold Vc.look at hu
  cases hb:Nat.beq t j with
  |true=>rw[hb] at hu;obtain rfl:=Nat.eq_of_beq_eq_true hb;rw[←hu];exact hf.at_ t v h1
  |false=>rw[hb] at hu;exact hf.at_ j u hu}
section
variable {n:Nat} {V:Type}
def mkT (o:Oper):TypeId:=match o.op with|.makeMap t _=>t|_=>0
def mm (j:Nat) (ev:V→Value):D P n:=.l {
 ck:=λops s o k _=>.eq (bv ops s.L o) (some true) (.ok (bX s.L o) (.eq o.dst (some (dstO o)) (.ok (Nat.blt (dstO o) n) (.eq o.op (.makeMap (mkT o) none)
  (.all λb=>k {s with L:=(dstO o,.map (some b))::s.L,E:=(j,.obj b (kl S ev []))::s.E})))))
 ok:=λc ops Q s o rest k kx h hk _=>by
  obtain⟨h1,h2,h3,h4,h5,h6⟩:=h
  intro M a w hM hf hp hF
  exact Bc S ev hf hp h1 h2 h3 h4 h5 λb w' hp' a' hf'=>hk _ (h6 b) M a' w' hM hf' hp' hF}
def mIn (o:Oper):TypeId×Operand×Operand×Operand:=match o.op with|.insert t x y z=>(t,x,y,z)|.mapUpdate t x y z=>(t,x,y,z)|_=>(0,.const undef,.const undef,.const undef)
def isUp (o:Oper):Bool:=match o.op with|.mapUpdate _ _ _ _=>true|_=>false
def mi (j:Nat) (ev:V→Value) (m:List (Bs×V)) (x:Bs) (v:V):D P n:=.l {
 ck:=λops s o k _=>match kget j s.E with
  |some (.obj b ob)=>.eq (bv ops s.L o) (some true) (.ok (bX s.L o) (.eq o.dst none (.eq o.op (bif isUp o then .mapUpdate (mIn o).1 (mIn o).2.1 (mIn o).2.2.1 (mIn o).2.2.2 else .insert (mIn o).1 (mIn o).2.1 (mIn o).2.2.1 (mIn o).2.2.2)
   (.eq (Vc.ev s.L (mIn o).2.1) (.map (some b)) (.eq (Vc.ev s.L (mIn o).2.2.1) (S x) (.eq (Vc.ev s.L (mIn o).2.2.2) (ev v) (.eq (P.underlying (mIn o).1) (some (.map (mapK P (mIn o).1).1 (mapK P (mIn o).1).2)) (.eq (P.underlying (mapK P (mIn o).1).1) (some .string)
   (.eq ob (kl S ev m) (k {s with E:=kput j (.obj b (kl S ev (jv m x v))) s.E}))))))))))
  |_=>.no
 ok:=λc ops Q s o rest k kx h hk _=>by
  split at h
  · rename_i b ob e
    obtain⟨h1,h2,h3,h4,h5,h6,h7,h8,h9,rfl,h10⟩:=h
    intro M a w hM hf hp hF
    refine W_mapput hf (hp.perm ((aW e).1.append_right _)) h1 h2 h3 (t:=(mIn o).1) ?_ h5 h6 h7 h8 (strKey h9) λw' hp' a' hf'=>hk _ h10 M a' w' hM hf' (hp'.perm (((aW e).2 _).symm.append_right _)) hF
    cases hu:isUp o with
    |true=>rw[hu] at h4;exact .inl h4
    |false=>rw[hu] at h4;exact .inr h4
  · exact h.elim}
end
def qq {n:Nat}:D P n:=.q {
 v:=λs o=>runV P s.L o
 ck:=λs o=>.all λw=>.eq ((execOp (Vc.ev s.L) o).run P w) (.ok (.value (runV P s.L o)) w) .done
 ok:=λs o h {w0 M H w} hp hF=>(h w).1}
def Sq {n:Nat} (j k0 i k:Nat) {α:Type} (Y:Ty α) {xs:List α} {it:Int} {x0:α} (hx:aq xs it=some x0) (xv:α) (is:List Nat):D P n:=.l {
 ck:=λops s o kt _=>match kget j s.E,kget k0 s.F,kget i s.F with
  |some (.row e sz (.slice A m1 c) m cs),some φ,some (.ix A' it' len ad)=>
   .ok (okStR P ops s.L o Y.sz) (.eq sz Y.sz (.eq m1 xs.length (.eq m xs.length (.eqF [φ] [.seq Y.sz Y.f xs cs] (.eq A A'
    (.eq (Vc.ev s.L (stX o)) (.pointer (some (ad.add (it.toNat*Y.sz)))) (.eq (Vc.ev s.L (stY o)) (bif Nat.beq Y.sz 1 then undef else Y.ag xv (zsOf s is [])) (.eqF (kall is s.F) (Y.facts xv (zsOf s is []))
    (.ok (!Nat.beq Y.sz 1) (.all λcs'=>kt {s with E:=kput j (.row e Y.sz (.slice A xs.length c) xs.length cs') s.E,F:=(k,.seq Y.sz Y.f (xs.set it.toNat xv) cs')::s.F}))))))))))
  |_,_,_=>.no
 ok:=λc0 ops Q s o rest kt kx h hk _=>by
  intro M a w hM hf hp hF
  split at h
  · rename_i e sz A m1 c m cs φ A' it' len ad e1 e2 e3
    obtain⟨h1,rfl,rfl,rfl,h5,rfl,h7,h8,h9,h10,h11⟩:=h
    have g1: (Fa.seq Y.sz Y.f xs cs).at M:=(List.cons.inj h5).1▸hF.kget e2
    obtain⟨g2,_,_⟩:=hF.kget e3
    have hp':=hp.perm ((aW e1).1.append_right _)
    obtain⟨b,cap,k1,_⟩:=hp'.rowAddr 0 rfl (sv hx)
    obtain⟨k2,_,_⟩:=Value.slice.inj k1
    rw[k2] at g2
    obtain rfl:=Option.some.inj g2
    have hne:Nat.beq Y.sz 1=false:=by simpa using h10
    rw[hne,cond_false] at h8
    refine Wr hf hp' (by rw[k2]) (Y.shut (h9▸hF.kall is)) Y.szd hx g1.1 (λcs' w' hp2 hr hl a' ha=>?_) h1 h7 h8
    exact hk _ (h11 cs') M a' w' hM ha (hp2.perm (((aW e1).2 _).symm.append_right _)) (.cons ⟨hr,Y.szd⟩ hF)
  · exact h.elim}
def hw {n:Nat} (j:Nat) {m m':Nat} (h:m=m') (ss:List Nat) (bs:List (Nat×Nat):=[]):D P n:=.im {
 ck:=λs0 k=>rsp j m m' ss bs s0 λ_ _ s=>match kget j s.E with
  |some (.row e sz (.slice A m1 c) m2 cs)=>.eq m1 m (.eq m2 m (k {s with E:=kput j (.row e sz (.slice A m' c) m' cs) s.E}))
  |_=>.no
 ok:=λc0 s0 k G hh hk M a w hM hf0 hp0 hF0=>by
  obtain⟨A0,c',s,hsB,hsF,hf,hp,h1⟩:=rsp_ok h hh hf0 hp0
  rw[←hsB] at hp
  split at h1
  · rename_i e sz A m1 c m2 cs e1
    obtain⟨h2,h3,h4⟩:=h1
    have h5:m1=m':=h2.trans h
    have h6:m2=m':=h3.trans h
    rw[h5,h6] at e1
    refine hk _ h4 M a w hM hf ?_ (by show Fh M (vals s.F);rw[hsF];exact hF0)
    exact(hp.perm ((aW e1).1.append_right _)).perm (((aW e1).2 _).symm.append_right _)
  · exact h1.elim}
theorem len_set {α:Type} (xs:List α) (i:Nat) (x:α):xs.length=(xs.set i x).length:=List.length_set.symm
def mkS3 (o:Oper):TypeId×Operand×Operand:=match o.op with|.makeSlice t l c=>(t,l,c)|_=>(0,.const undef,.const undef)
def zeroV (P:Program) (e:TypeId):Value:=((P.info? e).bind (·.zero)).getD undef
def ms {n:Nat} (j k:Nat) {α:Type} (Y:Ty α) (x:α) {m:Int} {c:Nat} (hb:0≤m∧m*c≤140737488355328∧m≤140737488355328):D P n:=.l {
 ck:=λops s o kt _=>.eq (bv ops s.L o) (some true) (.ok (bX s.L o) (.eq o.dst (some (dstO o)) (.ok (Nat.blt (dstO o) n) (.eq o.op (.makeSlice (mkS3 o).1 (mkS3 o).2.1 (mkS3 o).2.2)
  (.eq (Vc.ev s.L (mkS3 o).2.1) (.int .i64 m) (.eq (Vc.ev s.L (mkS3 o).2.2) (.int .i64 m) (.eq (P.underlying (mkS3 o).1) (some (.slice (argE P (mkS3 o).1)))
  (.eq ((P.info? (argE P (mkS3 o).1)).map (λi=>(i.zero,i.size,i.bytes))) (some (some (zeroV P (argE P (mkS3 o).1)),1,c)) (.eq (zeroV P (argE P (mkS3 o).1)).cells #[zeroV P (argE P (mkS3 o).1)]
  (.eq [zeroV P (argE P (mkS3 o).1)] (Y.cells x (λ_=>{})) (.eqF [] (Y.facts x (λ_=>{})) (.eq Y.sz 1 (.all λA=>.all λc'=>.all λcs=>kt {s with L:=(dstO o,.slice A (List.replicate m.toNat x).length c')::s.L,E:=(j,.row (argE P (mkS3 o).1) 1 (.slice A (List.replicate m.toNat x).length c') (List.replicate m.toNat x).length cs)::s.E,F:=(k,.seq Y.sz Y.f (List.replicate m.toNat x) cs)::s.F})))))))))))))
 ok:=λcn ops Q s o rest kt kx h hk _=>by
  obtain⟨h1,h2,h3,h4,h5,h6,h7,h8,h9,h10,h11,h12,h13,h14⟩:=h
  intro M a w hM hf hp hF
  refine W_makeD hf hp (f:=Y.f) (x:=x) (by rw[h11];exact Y.shut (h12▸Fh.nil)) h1 h2 h3 h4 h5 h6 h7 h8 h9 h10 hb λA cap cs w' hp' hr a' ha=>hk _ (h14 A cap cs) M a' w' hM ha hp' (.cons ⟨hr,Y.szd⟩ hF)}
end Go.Ck
end
section
namespace Go.Vc
open Go Go.RowKit
variable {dd:List Deferred}
section
variable {P:Program} {fn:Func} {R:Ending→World→Prop} {n:Nat} {L:Fr} {a:Act} {w:World}
end
section
variable {P:Program} {ops:Array Oper} {n:Nat} {Q:Exit→Act→World→Prop} {L:Fr} {a:Act} {w:World}
end
section
variable {P:Program} {ops:Array Oper} {Q:Exit→Act→List Frame→World→Prop} {a:Act} {cs cs':List Frame} {w:World}
end
end Go.Vc
namespace Go.Vc
open Go Go.RowKit
end Go.Vc
namespace Go.Vc
open Go Go.RowKit
section
variable {P:Program} {fn:Func} {R:Ending→World→Prop} {n:Nat} {L:Fr} {a:Act} {w:World}
end
end Go.Vc
end
section
namespace Go.Ck
open Go Go.Vc Go.RowKit
variable {P:Program} {n:Nat} {ρ:Type}
def md:Option (List PanicEntry)→FrameMode|none=>.returning|some ch=>.panicking ch
structure DC (P:Program) (f:FuncId) where
 ch:Option (List PanicEntry)
 args:Lv
 pre:List Ent
 post:List Ent
 h: ∀ {w0:World} {M:Mem} {H:List Ent} {w:World},Hp w0 M (pre++H) w→CallsD P f args.toArray (md ch) w λe u' w'=>∃v,e=.returned v∧settle u'=.returning∧Hp w0 M (post++H) w'
structure DA (P:Program) where
 f:FuncId
 js:List Nat
 A:Option (List PanicEntry)→List Ent→DC P f
def DA.ck (x:DA P) (d:Deferred) (ch:Option (List PanicEntry)) (s:St) (k:St→T):T:=match d.target with|.fn fv cap=>.eq ch (x.A ch (ktake x.js s.E).1).ch (.eq (ktake x.js s.E).1 (x.A ch (ktake x.js s.E).1).pre (.and (.all λw=>.eq ((invoke d.target d.args).run P w) (.ok (.enter x.f (x.A ch (ktake x.js s.E).1).args.toArray) w) .done) (k {s with E:=kback x.js (x.A ch (ktake x.js s.E).1).post 0++(ktake x.js s.E).2})))|_=>.no
variable {P:Program} {n:Nat} {ρ:Type}
inductive FC
 |tx (l m:Bs)
 |nu (k:IntKind) (x y:Int)
 |bo (x y:Bool)
def FC.va:FC→Value|.tx l _=>S l|.nu k x _=>.int k x|.bo x _=>.bool x
def FC.vb:FC→Value|.tx _ m=>S m|.nu k _ y=>.int k y|.bo _ y=>.bool y
def FC.r:FC→Bool|.tx l m=>decide (l=m)|.nu _ x y=>decide (x=y)|.bo x y=>x==y
def FC.ty:FC→TypeDesc|.tx _ _=>.string|.nu k _ _=>.int k|.bo _ _=>.bool
def feT (P:Program) (xs ys:Array Value):List ((TypeId×Nat)×FC)→T|[]=>.done|((t,o),f)::r=>.and (.all λw=>.eq ((part t xs o).run P w) (.ok f.va w) .done) (.and (.all λw=>.eq ((part t ys o).run P w) (.ok f.vb w) .done) (.eq (P.underlying t) (some f.ty) (feT P xs ys r)))
theorem feT_ok {xs ys:Array Value} {w:World}: ∀ {l:List ((TypeId×Nat)×FC)},(feT P xs ys l).holds→FEq P 9999 xs ys w (l.map (·.1)) (l.map (·.2.r))
 |[],_=>trivial
 |((t,o),f)::r,⟨h1,h2,h3,h4⟩=>by
  refine⟨⟨f.va,f.vb,(h1 w).1,(h2 w).1,?_⟩,feT_ok h4⟩
  cases f with
  |tx l m=>exact EqS h3
  |nu k x y=>exact EqI h3
  |bo x y=>exact EqB h3
def se (l:List ((TypeId×Nat)×FC)):D P n:=.q {
 v:=λs o=>.bool (Vc.andL (l.map (·.2.r)))
 ck:=λs o=>match ev s.L (bnX o),ev s.L (bnY o) with
  |.agg xs,.agg ys=>isBin .eql o (.eq (P.underlying (bnT o)) (some (.struct (P.fieldsOf (bnT o)))) (.ok (!P.stoodInHeld (bnT o)) (.ok (!P.eqGuardType P.depth (bnT o)) (.ok (fieldsAre (P.fieldsOf (bnT o)).toList (l.map (·.1))) (feT P xs ys l)))))
  |_,_=>.no
 ok:=λs o h {w0 M H w} hp hF=>by
  split at h
  · rename_i xs ys e1 e2
    obtain⟨h1,h2,h3,h4,h5,h6⟩:=h
    exact X_aggEq h1 e1 e2 (by simpa using h4) h2 (by simpa using h3) h5 (λw=>feT_ok h6) w
  · exact h.elim}
def cw (j q:Nat) {v v':Value} (h:v=v'):D P n:=.im {
 ck:=λs k=>match kget j s.E with
  |some (.obj b (.cells cs T fr))=>.eq cs.toList[q]? (some v) (k {s with E:=kput j (.obj b (.cells (setL cs.toList q [v']).toArray T fr)) s.E})
  |_=>.no
 ok:=λc s k G hh hk M a w hM hf hp hF=>by
  split at hh
  · rename_i b cs T fr e
    obtain⟨h1,h2⟩:=hh
    refine hk _ h2 M a w hM hf ?_ hF
    show Hp c.w0 M (vals (kput j _ s.E)++(s.B++c.H)) w
    subst h
    rw[setL_same h1,Array.toArray_toList,yT e]
    exact hp
  · exact hh.elim}
theorem uq {t:Int} (h:0≤t∧t<256):t=((UInt8.ofNat t.toNat).toNat:Int):=by
 have e: (UInt8.ofNat t.toNat).toNat=t.toNat:=by
  rw[UInt8.toNat_ofNat']
  exact Nat.mod_eq_of_lt (by omega)
 rw[e];omega
def Tr (j k0 k:Nat) {α:Type} (Y:Ty α) {xs:List α} {b:Int} (h:0≤b∧b≤xs.length):D P n:=.l {
 ck:=λops s o kt _=>match kget j s.E,kget k0 s.F with
  |some (.row e sz (.slice A m1 c) m cs),some φ=>.ok (okO ops n s.L o) (slG o (.eq m1 xs.length (.eq m xs.length (.eq sz Y.sz (.eqF [φ] [.seq Y.sz Y.f xs cs] (.eq (ev s.L (slX o)) (.slice A xs.length c) (.eq (ev s.L (slB o)) (.int (kindV (ev s.L (slB o))) b) (.eq (P.underlying (slT o)) (some (.slice (argE P (slT o)))) (.ok (szIs P (argE P (slT o)) Y.sz)
   (.all λz:Z=>kt {s with L:=(dstO o,.slice z.A (xs.take b.toNat).length z.c)::s.L,E:=kput j (.row e Y.sz (.slice z.A (xs.take b.toNat).length z.c) (xs.take b.toNat).length z.k) s.E,F:=(k,.seq Y.sz Y.f (xs.take b.toNat) z.k)::s.F}))))))))))
  |_,_=>.no
 ok:=λc0 ops Q s o rest kt kx hh hk _=>by
  split at hh
  · rename_i e sz A m1 c m cs φ e1 e2
    obtain⟨h1,h2,rfl,rfl,rfl,h6,h7,h8,h9,h10,h11⟩:=hh
    intro M a0 w hM hf hp hF
    have g1: (Fa.seq Y.sz Y.f xs cs).at M:=(List.cons.inj h6).1▸hF.kget e2
    have hp':=hp.perm ((aW e1).1.append_right _)
    obtain⟨A',c',k1,k2,_⟩:=Hp.rowShape hp' 0 rfl
    obtain⟨rfl,_,rfl⟩:=Value.slice.inj k1
    have hx:=X_sliceTo (w:=w) h2 h7 h8 h9 h10 h.1 (by omega)
    have hl: (xs.take b.toNat).length=b.toNat:=by rw[List.length_take];omega
    have hp2:=hp'.rowFront (m:=b.toNat) rfl (by omega)
    rw[←hl] at hx hp2
    refine ku hf h1 hx λa' hf'=>?_
    refine hk _ (h11 {A:=cutA A Y.sz 0 c,c:=c,k:=cs.take ((xs.take b.toNat).length*Y.sz)}) M a' w hM hf' (hp2.perm (((aW e1).2 _).symm.append_right _)) (.cons ⟨?_,Y.szd⟩ hF)
    show au M ((xs.take b.toNat).map Y.f) _
    rw[hl,List.map_take]
    exact au.takeD b.toNat (λd hd=>by obtain⟨x,_,rfl⟩:=List.mem_map.1 hd;exact Y.szd x) g1.1
  · exact hh.elim}
theorem setL_one (cs:Lv) (off:Nat) (v:Value):cs.set off v=setL cs off [v]:=by
 induction cs generalizing off with
 |nil=>cases off<;>rfl
 |cons c cs ih=>cases off with
  |zero=>simp[setL,setL_nil]
  |succ q=>simp[setL,ih]
section
variable {V:Type}
def mmI (kd:IntKind) (j:Nat) (ev:V→Value):D P n:=.l {
 ck:=λops s o k _=>.eq (bv ops s.L o) (some true) (.ok (bX s.L o) (.eq o.dst (some (dstO o)) (.ok (Nat.blt (dstO o) n) (.eq o.op (.makeMap (mkT o) none)
  (.all λb=>k {s with L:=(dstO o,.map (some b))::s.L,E:=(j,.obj b (kl (Value.int kd) ev []))::s.E})))))
 ok:=λc ops Q s o rest k kx h hk _=>by
  obtain⟨h1,h2,h3,h4,h5,h6⟩:=h
  intro M a w hM hf hp hF
  exact Bc (Value.int kd) ev hf hp h1 h2 h3 h4 h5 λb w' hp' a' hf'=>hk _ (h6 b) M a' w' hM hf' hp' hF}
def miI (kd:IntKind) (j:Nat) (ev:V→Value) (m:List (Int×V)) (x:Int) (v:V):D P n:=.l {
 ck:=λops s o k _=>match kget j s.E with
  |some (.obj b ob)=>.eq (bv ops s.L o) (some true) (.ok (bX s.L o) (.eq o.dst none (.eq o.op (bif isUp o then .mapUpdate (mIn o).1 (mIn o).2.1 (mIn o).2.2.1 (mIn o).2.2.2 else .insert (mIn o).1 (mIn o).2.1 (mIn o).2.2.1 (mIn o).2.2.2)
   (.eq (Vc.ev s.L (mIn o).2.1) (.map (some b)) (.eq (Vc.ev s.L (mIn o).2.2.1) (.int kd x) (.eq (Vc.ev s.L (mIn o).2.2.2) (ev v) (.eq (P.underlying (mIn o).1) (some (.map (mapK P (mIn o).1).1 (mapK P (mIn o).1).2)) (.eq (P.underlying (mapK P (mIn o).1).1) (some (.int kd))
   (.eq ob (kl (Value.int kd) ev m) (k {s with E:=kput j (.obj b (kl (Value.int kd) ev (jv m x v))) s.E}))))))))))
  |_=>.no
 ok:=λc ops Q s o rest k kx h hk _=>by
  split at h
  · rename_i b ob e
    obtain⟨h1,h2,h3,h4,h5,h6,h7,h8,h9,rfl,h10⟩:=h
    intro M a w hM hf hp hF
    refine W_mapput hf (hp.perm ((aW e).1.append_right _)) h1 h2 h3 (t:=(mIn o).1) ?_ h5 h6 h7 h8 (intKey h9) λw' hp' a' hf'=>hk _ h10 M a' w' hM hf' (hp'.perm (((aW e).2 _).symm.append_right _)) hF
    cases hu:isUp o with
    |true=>rw[hu] at h4;exact .inl h4
    |false=>rw[hu] at h4;exact .inr h4
  · exact h.elim}
def mlI (kd:IntKind) (j:Nat) (ev:V→Value) (m:List (Int×V)) (x:Int) (z:V):D P n:=.q {
 v:=λ_ _=>ev ((eS m x).getD z)
 ck:=λs o=>match kget j s.E with
  |some (.obj b ob)=>.eq ob (kl (Value.int kd) ev m) (.eq o.op (.lookup (lkT o) (lkX o) (lkY o) false) (.eq (Vc.ev s.L (lkX o)) (.map (some b)) (.eq (Vc.ev s.L (lkY o)) (.int kd x) (.eq (P.underlying (lkT o)) (some (.map (mapK P (lkT o)).1 (mapK P (lkT o)).2))
   (.eq ((P.info? (mapK P (lkT o)).2).bind (·.zero)) (some (ev z)) (.eq (P.underlying (mapK P (lkT o)).1) (some (.int kd)) .done))))))
  |_=>.no
 ok:=λs o hh {w0 M H w} hp hF=>by
  split at hh
  · rename_i b ob e
    obtain⟨rfl,h1,h2,h3,h4,h5,h6,_⟩:=hh
    exact X_lookup1 (ev:=ev) (z:=z) h1 h2 h3 h4 (intKey h6) h5 (hp.own _ (List.mem_append_left _ (kB e))).2
  · exact hh.elim}
def lenX (o:Oper):Operand:=match o.op with|.call c=>c.args[0]?.getD (.const undef)|_=>.const undef
def lenT (o:Oper):TypeId:=match o.op with|.call c=>c.argTypes[0]?.getD 0|_=>0
def mL (kd:IntKind) (j:Nat) (ev:V→Value) (m:List (Int×V)):D P n:=.q {
 v:=λ_ _=>.int .i64 (m.length:Int)
 ck:=λs o=>match kget j s.E with
  |some (.obj b ob)=>.eq ob (kl (Value.int kd) ev m) (.eq o.op (.call {callee:=.builtin .len,args:=#[lenX o],argTypes:=#[lenT o]}) (.eq (Vc.ev s.L (lenX o)) (.map (some b)) (.eq (P.underlying (lenT o)) (some (.map (mapK P (lenT o)).1 (mapK P (lenT o)).2)) .done)))
  |_=>.no
 ok:=λs o hh {w0 M H w} hp hF=>by
  split at hh
  · rename_i b ob e
    obtain⟨rfl,h1,h2,h3,_⟩:=hh
    exact X_lenMap (ek:=Value.int kd) (ev:=ev) h1 h2 h3 (hp.own _ (List.mem_append_left _ (kB e))).2
  · exact hh.elim}
end
section
variable {M:Mem} {f:FuncId} {args:Lv} {α β:Type}
end
theorem re_set {cs c1:Lv} {kk off:Nat} {v:Value} (h: ∀j v,c1[j]? =some v→cs[kk+j]? =some v) (ho:off<c1.length): ∀j u,(setL c1 off [v])[j]? =some u→(cs.set (kk+off) v)[kk+j]? =some u:=λj u hu=>by
 rw[←setL_one,List.getElem?_set] at hu
 rw[List.getElem?_set]
 by_cases hj:off=j
 ·subst hj
  rw[if_pos rfl,if_pos ho] at hu
  have:=h off _ (List.getElem?_eq_getElem ho)
  rw[if_pos rfl,if_pos (List.getElem?_eq_some_iff.1 this).1]
  exact hu
 rw[if_neg hj] at hu
 rw[if_neg (by omega)]
 exact h j u hu
def Sf (j k0 i k off:Nat) {α:Type} (Y:Ty α) {xs:List α} {it:Int} {x0:α} (hx:aq xs it=some x0) (xv:α) (is:List Nat) (ss:List Nat) (bs:List (Nat×Nat):=[]):D P n:=.l {
 ck:=λops s0 o kt _=>rsp j xs.length (xs.set it.toNat xv).length ss bs s0 λA c s=>match kget j s.E,kget k0 s.F,kget i s.F,kget (i+1) s.F with
  |some (.row e sz v m cs),some φ,some (.re A1 b1 cs1 kk c1),some (.ix A' it' len ad)=>
   .ok (okStR P ops s.L o 1) (.eq sz Y.sz (.eq v (.slice A xs.length c) (.eq m xs.length (.eqF [φ] [.seq Y.sz Y.f xs cs] (.eq A A' (.eq A1 A' (.eq cs1 cs (.eq kk (it.toNat*Y.sz)
    (.eq (ev s.L (stX o)) (.pointer (some ((ad.add (it.toNat*Y.sz)).add off))) (.eq (Y.cells xv (zsOf s is [])) (setL c1 off [ev s.L (stY o)]) (.eq c1.length Y.sz (.ok (Nat.blt off c1.length) (.eqF (kall is s.F) (Y.facts xv (zsOf s is []))
    (kt {s with E:=kput j (.row e Y.sz (.slice A (xs.set it.toNat xv).length c) (xs.set it.toNat xv).length (cs.set (it.toNat*Y.sz+off) (ev s.L (stY o)))) s.E,F:=(k,.seq Y.sz Y.f (xs.set it.toNat xv) (cs.set (it.toNat*Y.sz+off) (ev s.L (stY o))))::(i,.re A b1 (cs.set (it.toNat*Y.sz+off) (ev s.L (stY o))) (it.toNat*Y.sz) (setL c1 off [ev s.L (stY o)]))::s.F}))))))))))))))
  |_,_,_,_=>.no
 ok:=λc0 ops Q s0 o rest kt kx h hk _=>by
  intro M a w hM hf0 hp0 hF0
  obtain⟨A,c,s,hsB,hsF,hf,hp,h⟩:=rsp_ok (by rw[List.length_set]) h hf0 hp0
  rw[←hsB] at hp
  have hF:Fh M (vals s.F):=by rw[hsF];exact hF0
  split at h
  · rename_i e sz v m cs φ A1 b1 cs1 kk c1 A' it' len ad e1 e2 e3 e4
    obtain⟨h1,rfl,rfl,rfl,h5,rfl,rfl,rfl,rfl,h7,h8,h9,h10,h11,h12⟩:=h
    have g1: (Fa.seq Y.sz Y.f xs cs1).at M:=(List.cons.inj h5).1▸hF.kget e2
    obtain⟨g0,g3⟩:=hF.kget e3
    obtain⟨g2,_,_⟩:=hF.kget e4
    have hp':=hp.perm ((aW e1).1.append_right _)
    obtain⟨b,cap,k1,_⟩:=hp'.rowAddr 0 rfl (sv hx)
    obtain⟨k2,_,_⟩:=Value.slice.inj k1
    rw[k2] at g2
    obtain rfl:=Option.some.inj g2
    have hs:=Y.shut (h11▸hF.kall is)
    rw[h8] at hs
    have hoff:off<c1.length:=by simpa [Nat.blt_eq] using h10
    unfold okStR at h1
    simp only[Bool.and_eq_true] at h1
    obtain⟨⟨⟨i1,i2⟩,i3⟩,i4⟩:=h1
    split at i1
    · rename_i i1'
      split at i4
      · rename_i t x y he
        have hx':ev s.L x=.pointer (some (((⟨b,0,none⟩:Addr).add (it.toNat*Y.sz)).add off)):=by simpa [stX,he] using h7
        have hy':ev s.L y=ev s.L (stY o):=by simp[stY,he]
        have hset:c1.set off (ev s.L (stY o))=setL c1 off [ev s.L (stY o)]:=setL_one c1 off _
        have hseq:au M [Y.f xv] (setL c1 off [ev s.L (stY o)]):=⟨_,[],(List.append_nil _).symm,hs,rfl⟩
        have hone: (ev s.L (stY o)).oneCell'=true:=au.oneC _ _ hseq _ (by rw[←hset];exact List.mem_iff_getElem?.2 ⟨off,by simp[hoff]⟩)
        refine zr (it:=it) (off:=off) (xv:=xv) (c0:=c1) hf hp' (by rw[k2]) i1' i2 (by simpa using i3) he hx' hy' hone i4 Y.szd hx g1.1 h9 g3 hoff hset hs λw' hp2 hr a' ha=>?_
        have hp3:Hp c0.w0 M (.row e Y.sz (.slice A1 (xs.set it.toNat xv).length c) (xs.set it.toNat xv).length (cs1.set (it.toNat*Y.sz+off) (ev s.L (stY o)))::(vals (kdel j s.E)++(s.B++c0.H))) w':=hp2.rowVal (by simp only[List.length_set])
        exact hk _ h12 M a' w' hM ha (hp3.perm (((aW e1).2 _).symm.append_right _)) (.cons ⟨hr,Y.szd⟩ (.cons ⟨g0,re_set g3 hoff⟩ hF))
      · cases i4
    · cases i1
  · exact h.elim}
theorem lendX_ok {w w0:World} {H:List Ent} {k:St→T}: ∀ {l:List (Nat×Nat×Nat)} {s:St},(lendS l s k).holds→∀ {M:Mem},Hp w0 M (vals s.E++H) w→Fh M (vals s.F)→
 ∃s1 M1 R,s1.B=s.B∧s1.L=s.L∧s1.D=s.D∧(k s1).holds∧M.le M1∧Hp w0 M1 (vals s1.E++H) w∧Fh M1 (vals s1.F)∧(vals s.E).Perm (R++vals s1.E)∧∀M' H' w',M1.le M'→Hp w0 M' H' w'→∃M2,M.le M2∧Hp w0 M2 (R++H') w'
 |[],s,h,M,hp,hF=>⟨s,M,[],rfl,rfl,rfl,h,Mem.le_refl M,hp,hF,List.Perm.refl _,λM' H' w' g1 g2=>⟨M',g1,g2⟩⟩
 |(j,q,t)::r,s,h,M,hp,hF=>by
  unfold lendS at h
  split at h
  ·rename_i e sz A m cc m' cs α sz' f xs cs' e1 e2
   obtain⟨rfl,rfl,rfl,rfl,h⟩:=h
   obtain⟨g1,g2⟩:=hF.kget e2
   have hp':=hp.perm ((aW e1).1.append_right _)
   obtain⟨M1,A',c',k1,k2,k3,k4,k5⟩:=Hp.lend (xs:=xs) hp' g2 g1
   obtain⟨rfl,_,rfl⟩:=Value.slice.inj k2
   obtain⟨s1,M2,R,iB,i1,i2,i3,i4,i5,i6,i7,i8⟩:=lendX_ok h k3 (.cons k4 (hF.mo k1))
   refine⟨s1,M2,_::R,iB,i1,i2,i3,k1.trans i4,i5,i6,((aW e1).1.trans (List.Perm.cons _ i7)),λM' H' w' j1 j2=>?_⟩
   obtain⟨M3,l1,l2⟩:=i8 M' H' w' j1 j2
   obtain⟨M4,l3,l4⟩:=k5 M3 _ w' l1 l2
   exact⟨M4,l3,l4⟩
  exact h.elim
def CLr {α β:Type} {F:Zs→List Fa} {f:FuncId} {args:Zs→Lv} {g:Option α} {e:TypeId} {sz:Nat} {em:β→Dat} (hfl: ∀x,Flat (em x)) {xs:α→List β} (hc: ∀z,OkC P (F z) [] f (args z) g (λx (y:Zs)=>⟨(y 1).sl (xs x).length,[Ent.row e sz ((y 1).sl (xs x).length) (xs x).length (y 1).k],[.seq sz em (xs x) (y 1).k]⟩)) {x:α} (hx:g=some x) (is:List Nat) (ls:List (Nat×Nat×Nat)) (i:Nat):D P n:=.l {
 ck:=λops s0 o k _=>lendS ls s0 λs=>.ok (okO ops n s.L o) (.and (.all λw=>.eq ((execOp (ev s.L) o).run P w) (.ok (.enter f (args (zsOf s is [])).toArray) w) .done) (.eqF (kall is s.F) (F (zsOf s is []))
     (.all λz:Z=>k {s0 with L:=(dstO o,z.sl (xs x).length)::s0.L,E:=(i,.row e sz (z.sl (xs x).length) (xs x).length z.k)::s0.E,F:=(i,.seq sz em (xs x) z.k)::s0.F})))
 ok:=λc ops Q s0 o rest k kx h hk _=>by
  intro M a w hM hf hp hF
  obtain⟨s,M1,R,iB,i1,i2,⟨h1,h2,h3,h5⟩,i4,i5,i6,i7,i8⟩:=lendX_ok h hp hF
  generalize zsOf s is []=z0 at*
  rw[←i1,←i2] at hf
  have hF':Fh M1 (F z0):=h3▸i6.kall is
  refine V_okH (E:=[]) hf i5 (hc z0 M1 hF' x hx) h1 (λw=>(h2 w).1) λu M' E' w' hM' hp2 ⟨z,e1,e2,e3⟩ a' hf'=>?_
  subst e1;subst e2
  obtain⟨M2,l1,l2⟩:=i8 M' _ w' hM' hp2
  rw[i1,i2] at hf'
  refine hk _ (h5 (z 1)) M2 a' w' (hM.trans l1) hf' ?_ (.cons ?_ (hF.mo l1))
  · refine l2.perm ?_
    show(R++([Ent.row e sz ((z 1).sl (xs x).length) (xs x).length (z 1).k]++(vals s.E++(s0.B++c.H)))).Perm (Ent.row e sz ((z 1).sl (xs x).length) (xs x).length (z 1).k::vals s0.E++(s0.B++c.H))
    refine List.perm_middle.trans (List.Perm.cons _ ?_)
    show(R++(vals s.E++(s0.B++c.H))).Perm (vals s0.E++(s0.B++c.H))
    rw[←List.append_assoc]
    exact(i7.symm.append_right _)
  · have g:=e3 _ (List.mem_singleton.2 rfl)
    exact⟨au.flat hfl _ g.1,g.2⟩}
end Go.Ck
end
section
namespace Go.Vc
open Go Go.RowKit
variable {dd:List Deferred}
section
variable {σ α β:Type} {P:Program} {l:Nat} {vals:Mem→α→Lv→Prop} {Y:σ→α→Option (Lp σ β)}
theorem Frm.zip2 {n:Nat} {L:Fr} {a:Act} (h:Frm n L a) {p q:Nat} (hp:Nat.blt p n=true) (hq:Nat.blt q n=true) (v u:Value):Frm n ((q,u)::(p,v)::L) {tmps:=((#[p,q]:Array Tmp).zip #[v,u]).foldl (λt (p,v)=>t.setIfInBounds p v) a.tmps,defers:=[]}:=by
 have:=(h.put (d:=p) (by simpa [Nat.blt_eq] using hp) v).put (d:=q) (by simpa [Nat.blt_eq] using hq) u
 have e: ((#[p,q]:Array Tmp).zip #[v,u]).foldl (λt (p,v)=>t.setIfInBounds p v) a.tmps=((a.put (some p) v).put (some q) u).tmps:=by
  simp[Act.put]
 exact⟨by rw[e];exact this.size,rfl,by rw[e];exact this.at_⟩
theorem R_range2 {n:Nat} {Lf:Fr} {g:Operand} {p q:Nat} {assign body:Code} {Q:Exit→Act→World→Prop} {a:Act} {w w0:World} {M:Mem} {H E0:List Ent} {f:FuncId} {caps:Lv}
 (hf:Frm n Lf a) (hp:Hp w0 M (E0++H) w) (hg:has Lf g=true) (hgv:ev Lf g=.func (.func f) #[] caps.toArray) (hpn:Nat.blt p n=true) (hqn:Nat.blt q n=true) (eg: ∀args w,(callFunc f args).run P w=.ok (.enter f args) w)
 (Ju:σ→Mem→List Ent→Prop) (Jxu:β→Mem→List Ent→Prop) (jm:β→Jmp) (s0:σ) (r:Lp σ β) (hJ:Ju s0 M E0) (hgr:Grows Ju) (hgx:Grows Jxu)
 (hv1: ∀M x vs,vals M x vs→∃v u,vs=[v,u])
 (hit: ∀l J Jx,Grows J→Grows Jx→Yld P l vals J Jx Y→IterTo P f (.func (.yield l) #[] #[]::caps) J Jx r s0 M)
 (round: ∀s x r',Y s x=some r'→∀l w0' M' E1 Hr w1 a1 v u,M.le M'→Ju s M' E1→vals M' x [v,u]→Hp w0' M' (E1++Hr) w1→Frm n ((q,u)::(p,v)::Lf) a1→
  assign.wr (some l) P (Exit.then (λa2 w2=>∃M2 E2,M'.le M2∧Hp w0' M2 (E2++Hr) w2∧∀Hr' w3,Hp w0' M2 (E2++Hr') w3→body.wr (some l) P (RB Ju Jxu jm r' w0' M2 Hr') a2 w3) (λ_ _ _=>False)) a1 w1)
 (hdone: ∀s',r=.nx s'→∀l D rr M' E1 w4 a',M.le M'→Ju s' M' E1→Hp w0 M' (.obj l (.loop rr)::.obj D (.deferred (some []))::(E1++H)) w4→Frm n Lf a' (mark D)→Q .normal a' w4)
 (hjump: ∀b,r=.br b→∀l D rr M' E1 w4 a',M.le M'→Jxu b M' E1→Hp w0 M' (.obj l (.loop rr)::.obj D (.deferred (some []))::(E1++H)) w4→Frm n Lf a' (mark D)→Q (jm b).way a' w4):
 (Code.rangeFunc g #[p,q] assign body).wp P Q a w:=by
 refine(wpIn_wide (n:=0)).1 (wpIn_rangeFunc (F:=Fence.wide) λfn _=>?_)
 obtain⟨rec,hrec⟩: ∃rec:LoopState→Option Code→Loop,rec=λst pe=>{state:=st,pending:=pe,fn,tmps:=a.tmps,params:=#[p,q],assign,body,defers:=w.heap.size}:=⟨_,rfl⟩
 obtain⟨D,hD⟩: ∃D,D=w.heap.size:=⟨_,rfl⟩
 obtain⟨l,hl⟩: ∃l,l=w.heap.size+1:=⟨_,rfl⟩
 have hg':a.eval g=.func (.func f) #[] caps.toArray:=(hf.ev hg).trans hgv
 obtain⟨W1,hW1⟩: ∃W1,W1=(w.alloc (.deferred (some []))).alloc (.loop (rec .ready none)):=⟨_,rfl⟩
 refine⟨l,mark D,W1,{target:=.fn (.func f) caps.toArray,args:=#[.func (.yield l) #[] #[]]},W1,f,
  (.func (.yield l) #[] #[]::caps).toArray,W1,?_,?_,?_,?_,(λh=>absurd h (by decide)),?_⟩
 ·rw[hW1,hl,hD,hrec];exact run_enterLoop_outer _ _ _ _ _
 ·simp only[resolve,hg']
  simp[go_sem]
 ·intro f' _;trivial
 ·simp[invoke,go_sem,eg]
 have hp1:Hp w0 M (.obj l (.loop (rec .ready none))::.obj D (.deferred (some []))::(E0++H)) W1:=by
  rw[hW1]
  have h1:=(hp.alloc (.deferred (some []))).alloc (.loop (rec .ready none))
  rw[World.size_alloc,←hD] at h1
  rw[hl,←hD]
  exact h1
 let J:σ→Mem→List Ent→Prop:=λs M' E=>M.le M'∧∃E1,E=.obj l (.loop (rec .ready none))::.obj D (.deferred (some []))::E1∧Ju s M' E1
 let Jx:β→Mem→List Ent→Prop:=λb M' E=>M.le M'∧∃E1,E=.obj l (.loop (rec .done (some (jm b).code)))::.obj D (.deferred (some []))::E1∧Jxu b M' E1
 have hgJ:Grows J:=λs M1 M2 E h12 ⟨h1,E1,h2,h3⟩=>⟨h1.trans h12,E1,h2,hgr _ _ _ _ h12 h3⟩
 have hgJx:Grows Jx:=λs M1 M2 E h12 ⟨h1,E1,h2,h3⟩=>⟨h1.trans h12,E1,h2,hgx _ _ _ _ h12 h3⟩
 have hY:Yld P l vals J Jx Y:=by
  intro s x r' hr' w0' M1 E Hr w1 vs ⟨hM1,E1,hE,hu⟩ hvs hp2
  subst hE
  obtain⟨v,u,rfl⟩:=hv1 _ _ _ hvs
  have hlr:w1.heap[l]? =some (.loop (rec .ready none)):=(hp2.own _ (List.mem_cons_self)).2
  have hy:=run_yield (P:=P) (args:=#[v,u]) hlr (by rw[hrec];rfl)
  refine⟨fn,_,assign,body,by rw[hrec] at hy;exact hy,roundIn_of_wpIn trivial ?_⟩
  have hp3:Hp w0' M1 (E1++(.obj l (.loop (rec .ready none))::.obj D (.deferred (some []))::Hr)) w1:=by
   refine hp2.perm ?_
   exact(List.perm_append_comm (l₁:=[_,_]) (l₂:=E1)).append_right Hr |>.trans (by simp)
  have h1:=round s x r' hr' l w0' M1 E1 _ w1 _ v u hM1 hu hvs hp3 (hf.zip2 hpn hqn v u)
  refine RI_mono h1 λe a2 w2 hq=>?_
  cases e with
  |normal=>
   obtain⟨M2,E2,hM2,hp4,hb⟩:=hq
   have hp5:Hp w0' M2 (.obj l (.loop (rec .ready none))::(.obj D (.deferred (some []))::(E2++Hr))) w2:=hp4.perm (by
    have:=(List.perm_append_comm (l₁:=E2) (l₂:=[Ent.obj l (.loop (rec .ready none)),Ent.obj D (.deferred (some []))])).append_right Hr
    simpa using this)
   have hlr2:w2.heap[l]? =some (.loop (rec .ready none)):=(hp5.own _ (List.mem_cons_self)).2
   have hbr:=run_beginRound (P:=P) hlr2 (by rw[hrec])
   have hp6:Hp w0' M2 (.obj l (.loop (rec .busy none))::(.obj D (.deferred (some []))::(E2++Hr))) (w2.putObj l (.loop {rec .ready none with state:=.busy})):=by
    have:=hp5.put (y:=.loop {rec .ready none with state:=.busy})
    rw[hrec] at this ⊢
    exact this
   have hp7:Hp w0' M2 (E2++(.obj l (.loop (rec .busy none))::.obj D (.deferred (some []))::Hr)) (w2.putObj l (.loop {rec .ready none with state:=.busy})):=hp6.perm (by
    have:=(List.perm_append_comm (l₁:=[Ent.obj l (.loop (rec .busy none)),Ent.obj D (.deferred (some []))]) (l₂:=E2)).append_right Hr
    simpa using this)
   refine⟨_,hbr,RI_mono (hb _ _ hp7) λe3 a3 w3 hq3=>?_⟩
   have fin: ∀ (jump:Option Code) (M3:Mem) (E3:List Ent),Hp w0' M3 (E3++(.obj l (.loop (rec .busy none))::.obj D (.deferred (some []))::Hr)) w3→
    ∃w4,(Instr.endRound l jump).run P w3=.ok (.bool jump.isNone) w4∧Hp w0' M3 ((.obj l (.loop (rec (if jump.isNone then .ready else .done) jump))::.obj D (.deferred (some []))::E3)++Hr) w4:=λjump M3 E3 hq=>by
    have hq1:Hp w0' M3 (.obj l (.loop (rec .busy none))::(.obj D (.deferred (some []))::(E3++Hr))) w3:=hq.perm (by
     have:=(List.perm_append_comm (l₁:=E3) (l₂:=[Ent.obj l (.loop (rec .busy none)),Ent.obj D (.deferred (some []))])).append_right Hr
     simpa using this)
    have hlr3:w3.heap[l]? =some (.loop (rec .busy none)):=(hq1.own _ (List.mem_cons_self)).2
    refine⟨_,run_endRound jump hlr3,?_⟩
    have:=hq1.put (y:=.loop {rec .busy none with state:=if jump.isNone then .ready else .done,pending:=jump})
    rw[hrec] at this ⊢
    exact this
   unfold RB at hq3
   cases r' with
   |nx s'=>
    obtain⟨rfl,M3,E3,hM3,hp8,hu3⟩:=hq3
    obtain⟨w4,he,hp9⟩:=fin none M3 E3 hp8
    exact⟨_,w4,he,M3,_,hM2.trans hM3,hp9,rfl,hM1.trans (hM2.trans hM3),E3,rfl,hu3⟩
   |br b=>
    obtain⟨he3,M3,E3,hM3,hp8,hu3⟩:=hq3
    obtain⟨w4,he,hp9⟩:=fin (some (jm b).code) M3 E3 hp8
    cases hj:jm b with
    |ret=>
     rw[hj] at he3
     cases he3
     rw[hj] at he hp9
     exact⟨_,w4,he,M3,_,hM2.trans hM3,hp9,rfl,hM1.trans (hM2.trans hM3),E3,by rw[hj];rfl,hu3⟩
    |exit id=>
     rw[hj] at he3
     cases he3
     rw[hj] at he hp9
     exact⟨_,w4,he,M3,_,hM2.trans hM3,hp9,rfl,hM1.trans (hM2.trans hM3),E3,by rw[hj];rfl,hu3⟩
  |_=>exact hq.elim
 have hcall:=hit l J Jx hgJ hgJx hY w0 M (.obj l (.loop (rec .ready none))::.obj D (.deferred (some []))::E0) H _ (Mem.le_refl M) ⟨Mem.le_refl M,E0,rfl,hJ⟩ hp1
 refine CallsIn.mono (callsIn_wide.2 hcall) ?_
 rintro e w3 ⟨v,rfl,M',E',hM',hp4,hr⟩
 have hfm:=hf.marked D
 cases hrr:r with
 |nx s'=>
  rw[hrr] at hr
  obtain⟨_,E1,rfl,hu⟩:=hr
  have hlr:w3.heap[l]? =some (.loop (rec .ready none)):=(hp4.own _ (List.mem_cons_self)).2
  have he:=run_endLoop (P:=P) hlr (by rw[hrec];simp)
  have hpe: (rec .ready none).pending=none:=by rw[hrec]
  rw[hpe] at he
  refine⟨none,_,he,?_⟩
  exact hdone s' hrr l D _ M' E1 _ _ hM' hu hp4.put hfm
 |br b=>
  rw[hrr] at hr
  obtain⟨_,E1,rfl,hu⟩:=hr
  have hlr:w3.heap[l]? =some (.loop (rec .done (some (jm b).code))):=(hp4.own _ (List.mem_cons_self)).2
  have he:=run_endLoop (P:=P) hlr (by rw[hrec];simp)
  have hpe: (rec .done (some (jm b).code)).pending=some (jm b).code:=by rw[hrec]
  refine⟨some (jm b).code,_,he.trans (congrArg (λz=>Result.ok z _) hpe),?_⟩
  have hp5:=hp4.put (y:=.loop {rec .done (some (jm b).code) with state:=.exhausted})
  have h5:=hjump b hrr l D _ M' E1 _ _ hM' hu hp5 hfm
  cases hj:jm b with
  |ret=>rw[hj] at h5;exact wpIn_ret h5
  |exit id=>rw[hj] at h5;exact wpIn_exit h5
end
section
variable {P:Program} {ops:Array Oper} {Q Q':Exit→Act→World→Prop} {ro:Option Nat} {a:Act} {w:World}
theorem op_in' {o:Oper} {K K':Act→World→Prop} (hd: ∀c,o.op≠ .defer c) (hQ: ∀e a w,Q' e a w→e=.normal) (hK: ∀a w,K a w→K' a w) (h:o.wp P a w K Q'):o.wpIn (fen ro) 0 P a w K' Q:=by
 refine⟨λf _=>yN f,?_⟩
 rw[yO,Oper.semAt_eq ro _ _ hd]
 unfold Oper.wp at h
 generalize (execOp a.eval o).run P w=r at h ⊢
 cases r with
 |ok x w'=>
  cases x with
  |value v=>exact hK _ _ h
  |skip=>exact hK _ _ h
  |defer d=>exact hK _ _ h
  |enter f args=>
   refine⟨sr,calls_in (Calls.mono h λe w'' he=>?_)⟩
   cases e with
   |returned v=>exact hK _ _ he
   |panicked c=>cases hQ _ _ _ he
   |outgrown=>
    obtain⟨a',w',h2⟩:=he
    cases hQ _ _ _ h2
  |row row args=>exact⟨sr,rows_in (_root_.Go.Rows.mono h λv w'' he=>hK _ _ he)⟩
  |_=>exact h.elim
 |halt x w'=>
  cases x with
  |panic v=>cases hQ _ _ _ h
  |_=>exact h.elim
theorem og (rest:List Oper): ∀ (l:List Oper),noDefer l=true→∀ (a:Act) (w:World),wpList P ops (λe a w=>e=.normal∧wpListIn (fen ro) 0 P ops Q rest a w) l a w→wpListIn (fen ro) 0 P ops Q (l++rest) a w
 |[],_,a,w,h=>h.2
 |o::l,hd,a,w,h=>by
  have hd':noDefer l=true:=by
   unfold noDefer at hd ⊢
   rw[List.all_cons,Bool.and_eq_true] at hd
   exact hd.2
  simp only[wpList] at h
  simp only[List.cons_append,wpListIn]
  split
  ·rename_i hw
   rw[if_pos hw] at h
   rcases h with h|h
   ·exact op_in' (td hd (by simp)) (λ_ _ _ h=>h.1) (og rest l hd') h
   obtain⟨a',w',h2,_⟩:=h.2
   cases h2
  rename_i hw
  rw[if_neg hw] at h
  exact⟨λf _=>yN f,og rest l hd' _ _ h⟩
theorem WI_pre {l:List Oper} (m:Nat) (hd:noDefer (l.take m)=true) (h:wpList P ops (λe a w=>e=.normal∧wpListIn (fen ro) 0 P ops Q (l.drop m) a w) (l.take m) a w):wpListIn (fen ro) 0 P ops Q l a w:=by
 have:=og (l.drop m) (l.take m) hd a w h
 rwa [List.take_append_drop] at this
end
def vals2 {α:Type} (f:Mem→α→Value→Prop) (M:Mem) (x:Int×α) (vs:Lv):Prop:=∃u,vs=[.int .i64 x.1,u]∧f M x.2 u
def vstr {α:Type} (emb:α→Dat) (M:Mem) (x:α) (u:Value):Prop:=∃cs,u=.agg cs.toArray∧Rep M (emb x) cs
def vint (k:IntKind) (_:Mem) (x:Int) (u:Value):Prop:=u=.int k x
def enumF {α:Type}:Int→List α→List (Int×α)|_,[]=>[]|i,x::r=>(i,x)::enumF (i+1) r
def backI {α:Type} (l:List α):List (Int×α):=(enumF 0 l).reverse
theorem enumF_app {α:Type}: ∀ (l m:List α) (i:Int),enumF i (l++m)=enumF i l++enumF (i+l.length) m
 |[],m,i=>by simp[enumF]
 |x::l,m,i=>by
  simp only[List.cons_append,enumF,enumF_app l m,List.length_cons]
  rw[show i+1+ (l.length:Int)=i+ ((l.length+1:Nat):Int) by omega]
theorem back_take {α:Type} {l:List α} {k:Nat} (h:k<l.length):backI (l.take (k+1))=((k:Int),l[k])::backI (l.take k):=by
 unfold backI
 rw[List.take_succ_eq_append_getElem h,enumF_app,List.reverse_append]
 simp[enumF,Nat.min_eq_left (Nat.le_of_lt h)]
end Go.Vc
end
section
namespace Go.Vc
open Go Go.RowKit Go.WideShapes
variable {dd:List Deferred}
structure KeyRun (P:Program) (t:TypeId) {κ:Type} [DecidableEq κ] (enc:κ→Value):Prop where
 ch: ∀w e k,(Instr.checkKey e 10000 t (enc k)).run P w=.ok () w
 wide: (match P.underlying t with|some (.array _ _)|some (.struct _)=>true|_=>false)=true
 eq: ∀w a b,(Op.equal t (enc a) (enc b)).run P w=.ok (decide (a=b)) w
 same: ∀a,Instr.sameBits 10000 (enc a) (enc a)=true
section
variable {P:Program} {κ:Type} [DecidableEq κ] {enc:κ→Value} {kt:TypeId}
theorem KeyRun.ask (K:KeyRun P kt enc) (w:World) (k:κ): ∀ (m:List (κ×Value)) (n j:Nat),(Instr.findAsking kt (enc k) ((m.zipIdx n).map (mEnt enc)) j).run P w=.ok (lkAt k m j) w
 |[],n,j=>by simp[Instr.findAsking,lkAt]
 |p::r,n,j=>by
  simp only[List.zipIdx_cons,List.map_cons,Instr.findAsking,Sem.run_bind]
  have he: (Op.equal kt (enc k) (mEnt enc (p,n)).key).run P w=.ok (decide (k=p.1)) w:=K.eq w k p.1
  rw[he]
  by_cases e:p.1=k
  ·have e':k=p.1:=e.symm
   simp[e',lkAt,mEnt]
  have e': ¬k=p.1:=λx=>e x.symm
  simp only[e',decide_false,Result.andThen_ok,Bool.false_eq_true,if_false,lkAt,e]
  exact K.ask w k r (n+1) (j+1)
theorem KeyRun.find (K:KeyRun P kt enc) (w:World) (k:κ) (m:List (κ×Value)): (Instr.findKey kt (enc k) (m.zipIdx.map (mEnt enc))).run P w=.ok (lkAt k m 0) w:=by
 exact(run_findKey_eq w K.wide _ _).trans (K.ask w k m 0 0)
variable {w:World} {ρ:Operand→Value} {o:Oper}
theorem X_lookupS {t et:TypeId} {x ix:Operand} {ok:Bool} {b:Nat} {m:List (κ×Value)} {k:κ} {z:Value} (ho:o.op=.lookup t x ix ok) (hx:ρ x=.map (some b)) (hk:ρ ix=enc k) (ht:P.underlying t=some (.map kt et)) (K:KeyRun P kt enc)
 (hz: (P.info? et).bind (·.zero)=some z) (hb:w.heap[b]? =some (mObj enc m)):
 (execOp ρ o).run P w=.ok (.value (if ok then .tuple #[((lkAt k m 0).map (·.2)).getD z,.bool (lkAt k m 0).isSome] else((lkAt k m 0).map (·.2)).getD z)) w:=by
 have hzero: (zeroValue et).run P w=.ok z w:=by
  cases hi:P.info? et with
  |none=>simp[hi] at hz
  |some i=>simp only[hi,Option.bind_some] at hz;simp[zeroValue,typeInfo,hi,hz]
 have hg: (getObj b).run P w=.ok (mObj enc m) w:=gF hb (oh m)
 unfold execOp
 simp only[ho,hx,hk,Instr.lookup,Sem.run_bind,run_underlying ht,Result.andThen_ok,hg]
 simp only[mObj,Sem.run_bind,Sem.run_pure,Result.andThen_ok,K.ch,K.find]
 cases lkAt k m 0 with
 |none=>simp[hzero]
 |some p=>simp
theorem X_mapUpdateS {t et:TypeId} {x ix y:Operand} {b:Nat} {m:List (κ×Value)} {k:κ} {v:Value} (ho:o.op=.mapUpdate t x ix y∨o.op=.insert t x ix y) (hx:ρ x=.map (some b)) (hk:ρ ix=enc k) (hv:ρ y=v) (ht:P.underlying t=some (.map kt et)) (K:KeyRun P kt enc)
 (hb:w.heap[b]? =some (mObj enc m)): (execOp ρ o).run P w=.ok .skip {w with heap:=w.heap.setIfInBounds b (mObj enc (updM m k v))}:=by
 have hg: (getObj b).run P w=.ok (mObj enc m) w:=gF hb (oh m)
 have hs: ∀y:Obj,(setObj b y).run P w=.ok () {w with heap:=w.heap.setIfInBounds b y}:=λy=>xM hb (oh m)
 have main: (Instr.mapUpdate t (.map (some b)) (enc k) v).run P w=.ok () {w with heap:=w.heap.setIfInBounds b (mObj enc (updM m k v))}:=by
  simp only[Instr.mapUpdate,Sem.run_bind,run_underlying ht,Result.andThen_ok,hg]
  simp only[mObj,Sem.run_bind,Result.andThen_ok,K.ch,K.find]
  cases hl:lkAt k m 0 with
  |none=>
   simp only[hs,updM,hl]
   congr 4
   ·apply Array.ext';simp[List.zipIdx_append,mEnt]
   simp
  |some p=>
   obtain⟨i,u⟩:=p
   have hm:=(wq hl).2
   simp only[Nat.sub_zero] at hm
   have hkey: ((m.zipIdx.map (mEnt enc)).toArray[i]?.map (·.key)).getD (enc k)=enc k:=by
    simp[List.getElem?_zipIdx,hm,mEnt]
   simp only[hkey,Instr.keyThatStays,K.same,if_true,Sem.run_bind,Sem.run_pure,Result.andThen_ok,hs,updM,hl]
   rw[set_ent m i k v u hm]
   simp
 unfold execOp
 rcases ho with ho|ho<;>simp only[ho,hx,hk,hv,Sem.run_bind,main]<;>rfl
variable {V:Type} {ev:V→Value}
theorem X_lookup1S {t et:TypeId} {x ix:Operand} {b:Nat} {m:List (κ×V)} {k:κ} {z:V} (ho:o.op=.lookup t x ix false) (hx:ρ x=.map (some b)) (hk:ρ ix=enc k) (ht:P.underlying t=some (.map kt et)) (K:KeyRun P kt enc)
 (hz: (P.info? et).bind (·.zero)=some (ev z)) (hb:w.heap[b]? =some (kl enc ev m)): (execOp ρ o).run P w=.ok (.value (ev ((eS m k).getD z))) w:=by
 have:=X_lookupS (ok:=false) ho hx hk ht K hz hb
 rw[this,xY]
 cases eS m k<;>rfl
variable {ops:Array Oper} {n:Nat} {Q:Exit→Act→World→Prop} {L:Fr} {a:Act} {w0:World} {M:Mem} {H:List Ent}
theorem W_mapputS {o:Oper} {rest:List Oper} {t et:TypeId} {x ix y:Operand} {b:Nat} {m:List (κ×V)} {k:κ} {v:V} (hf:Frm n L a dd) (hp:Hp w0 M (.obj b (kl enc ev m)::H) w) (hw:bv ops L o=some true) (hr:bX L o=true) (hd:o.dst=none)
 (ho:o.op=.mapUpdate t x ix y∨o.op=.insert t x ix y) (hx:Vc.ev L x=.map (some b)) (hk:Vc.ev L ix=enc k) (hv:Vc.ev L y=ev v) (ht:P.underlying t=some (.map kt et)) (K:KeyRun P kt enc)
 (hq: ∀w',Hp w0 M (.obj b (kl enc ev (jv m k v))::H) w'→∀a',Frm n L a' dd→wpList P ops Q rest a' w'):wpList P ops Q (o::rest) a w:=by
 refine xy hf hw hr hd (X_mapUpdateS ho hx hk hv ht K (hp.ownObj 0 rfl)) (hq _ ?_)
 have:=hp.put (y:=mObj enc (updM (m.map λp=>(p.1,ev p.2)) k (ev v)))
 show Hp w0 M (.obj b (mObj enc ((jv m k v).map λp=>(p.1,ev p.2)))::H) _
 rw[←updM_map];exact this
def FChk (P:Program) (e:Bool) (xs:Array Value) (w:World):List (TypeId×Nat)→Prop|[]=>True|(t,o)::s=>(∃a,(part t xs o).run P w=.ok a w∧(Instr.checkKey e 9999 t a).run P w=.ok () w)∧FChk P e xs w s
theorem FChk.run {e:Bool} {xs:Array Value}: ∀ {fs:List Field} {s:List (TypeId×Nat)},fieldsAre fs s=true→FChk P e xs w s→
 (forIn (m:=Sem) fs PUnit.unit λf _=>(do
  if f.name≠ "_" then Instr.checkKey e 9999 f.type (←part f.type xs f.offset)
  pure (ForInStep.yield PUnit.unit):Sem (ForInStep PUnit))).run P w=.ok PUnit.unit w
 |[],[],_,_=>by simp
 |f::fs,(t,o)::s,h,⟨⟨a,ha,hc⟩,h2⟩=>by
  simp only[fieldsAre,Bool.and_eq_true,bne_iff_ne] at h
  obtain⟨h1,h3,h4,h5⟩:=h
  have e1:=Nat.eq_of_beq_eq_true h3
  have e2:=Nat.eq_of_beq_eq_true h4
  subst e1;subst e2
  have ih:=FChk.run h5 h2
  simp only[List.forIn_cons,Sem.run_bind,h1,ne_eq,not_false_eq_true,if_true,Result.andThen_ok,ha,hc,Sem.run_pure]
  exact ih
 |[],_::_,h,_=>by simp[fieldsAre] at h
 |_::_,[],h,_=>by simp[fieldsAre] at h
theorem structKey {xs:κ→Array Value} {s:List (TypeId×Nat)} (ht:P.underlying kt=some (.struct (P.fieldsOf kt))) (hp:P.stoodInHeld kt=false) (hf:fieldsAre (P.fieldsOf kt).toList s=true)
 (hc: ∀w e k,FChk P e (xs k) w s) (he: ∀w a b,∃rs,FEq P 9999 (xs a) (xs b) w s rs∧andL rs=decide (a=b)) (hs: ∀k,Instr.sameBits 10000 (.agg (xs k)) (.agg (xs k))=true):KeyRun P kt (λk=>.agg (xs k)) where
 ch:=λw e k=>by
  rw[show(10000:Nat)=9999+1 from rfl,Instr.checkKey]
  simp only[Sem.run_bind,run_underlying ht,Result.andThen_ok]
  rw[←Array.forIn_toList]
  have:=FChk.run hf (hc w e k)
  simp at this ⊢
  rw[this]
  simp
 wide:=by rw[ht]
 eq:=λw a b=>by
  obtain⟨rs,h1,h2⟩:=he w a b
  rw[←h2]
  have:=run_equalIn_struct w 9999 kt (xs a) (xs b) ht hp
  rw[FEq.run hf h1] at this
  exact this
 same:=hs
theorem chInt {t:TypeId} {k:IntKind} (h:P.underlying t=some (.int k)) (w:World) (n:Nat) (e:Bool) (x:Int): (Instr.checkKey e (n+1) t (.int k x)).run P w=.ok () w:=by
 unfold Instr.checkKey
 rw[Sem.run_bind,run_underlying h]
 rfl
theorem key2 {κ:Type} [DecidableEq κ] {f g:κ→Int} {k1 k2:IntKind} {t1 t2:TypeId} (ht:P.underlying kt=some (.struct (P.fieldsOf kt))) (hp:P.stoodInHeld kt=false) (hf:fieldsAre (P.fieldsOf kt).toList [(t1,0),(t2,1)]=true)
 (h1:P.underlying t1=some (.int k1)) (h2:P.underlying t2=some (.int k2)) (hi: ∀a b:κ,(a=b)↔ (f a=f b∧g a=g b)):KeyRun P kt (λk:κ=>.agg #[.int k1 (f k),.int k2 (g k)]):=by
 have p1: ∀ (w:World) (k:κ),(part t1 #[Value.int k1 (f k),.int k2 (g k)] 0).run P w=.ok (.int k1 (f k)) w:=λw k=>by simp[part,isAgg,run_underlying h1]
 have p2: ∀ (w:World) (k:κ),(part t2 #[Value.int k1 (f k),.int k2 (g k)] 1).run P w=.ok (.int k2 (g k)) w:=λw k=>by simp[part,isAgg,run_underlying h2]
 refine structKey (xs:=λk:κ=>#[Value.int k1 (f k),.int k2 (g k)]) ht hp hf (λw e k=>⟨⟨_,p1 w k,chInt h1 w 9998 e _⟩,⟨_,p2 w k,chInt h2 w 9998 e _⟩,trivial⟩) (λw a b=>⟨[decide (f a=f b),decide (g a=g b)],⟨⟨_,_,p1 w a,p1 w b,EqI h1⟩,⟨_,_,p2 w a,p2 w b,EqI h2⟩,trivial⟩,?_⟩) (λk=>by simp[Instr.sameBits])
 simp only[andL,hi a b]
 rw[Bool.eq_iff_iff];simp
end
end Go.Vc
end
section
namespace Go.Ck
open Go Go.Vc Go.RowKit
variable {P:Program} {n:Nat} {ρ:Type}
structure Iv (α:Type) where
 vals:Mem→α→Lv→Prop
 u:α→Zs→Value
 v:α→Value
 F:α→Zs→List Fa
 opn: ∀ {M x l},vals M x l→∃z,l=[v x,u x z]∧Fh M (F x z)
 shut: ∀ {M x z},Fh M (F x z)→vals M x [v x,u x z]
def iS {α:Type} (Y:Ty α):Iv (Int×α):=⟨vals2 (vstr Y.f),λx z=>Y.ag x.2 z,λx=>.int .i64 x.1,λx z=>Y.facts x.2 z,λ ⟨u,h1,c,h2,h3⟩=>by
 obtain⟨z,rfl,h4⟩:=Y.opn h3
 exact⟨z,by rw[h1,h2];rfl,h4⟩,λh=>⟨_,rfl,_,rfl,Y.shut h⟩⟩
def iI (k:IntKind):Iv (Int×Int):=⟨vals2 (vint k),λx _=>.int k x.2,λx=>.int .i64 x.1,λ_ _=>[],λ ⟨u,h1,h2⟩=>⟨λ_=>{},by rw[h1,h2],Fh.nil⟩,λ_=>⟨_,rfl,rfl⟩⟩
def jmp:Exit→Jmp|.exit i=>.exit i|_=>.ret
def kL {σ β:Type} {kk:Lp σ β→Option ρ} (A:Ko P n λy=>kk (.nx y)) (A':Ko P n λy=>kk (.br y)):Ko P n kk where
 ck rd fin f s:=.and (A.ck rd fin (λy=>f (.nx y)) (λy=>s (.nx y))) (A'.ck rd fin (λy=>f (.br y)) (λy=>s (.br y)))
 ok c fin r b e f s h hk:=match b,e with
  |.nx y,e=>A.ok c fin r y e _ _ h.1 hk
  |.br y,e=>A'.ok c fin r y e _ _ h.2 hk
def kE {kk:Empty→Option ρ}:Ko P n kk where
 ck rd fin f s:=.done
 ok c fin r b e f s h hk:=b.elim
def Jn.rs (J:Jn) (s:St):St:={L:=s.L,E:=J.E++stay s.E J,F:=J.F++s.F,D:=s.D}
def Jn.rfit (J:Jn) (s:St) (o:Out) (s':St):T:=.eq s'.B [] (.eq (ktake (o.js++(stay s.E J).map (·.1)) s'.E).1 (vals (J.E++stay s.E J)) (.eqF (kall o.is s'.F) (vals J.F) .done))
theorem Jn.rfit_ok {J:Jn} {s s':St} {o:Out} (h: (J.rfit s o s').holds) {M0 M:Mem} {w w0:World} {H:List Ent} (hM:M0.le M) (hF0:Fh M0 (vals s.F)) (hp:Hp w0 M (vals s'.E++(s'.B++H)) w) (hF:Fh M (vals s'.F)):
 Hp w0 M (vals (J.rs s).E++H) w∧Fh M (vals (J.rs s).F):=by
 obtain⟨hB,h2,h3,_⟩:=h
 rw[hB] at hp
 refine⟨?_,?_⟩
 ·show Hp w0 M (vals (J.E++stay s.E J)++H) w
  rw[←h2]
  exact(hp.perm ((lF _ _).append_right _)).sub (by rw[List.append_assoc];exact(List.Sublist.refl _).append (List.sublist_append_right _ _))
 show Fh M (vals (J.F++s.F))
 rw[show vals (J.F++s.F)=vals J.F++vals s.F from List.map_append ..]
 exact(h3▸hF.kall o.is).app (hF0.mo hM)
def St.itm {α:Type} (V:Iv α) (s:St) (p q fk:Nat) (y:α) (z:Zs):St:={L:=(q,V.u y z)::(p,V.v y)::s.L,E:=s.E,F:=nums fk (V.F y z)++s.F,D:=[]}
def St.mk9 (s:St) (D:Nat):St:={L:=s.L,E:=(9999,.obj D (.deferred (some [])))::s.E,F:=s.F,D:=Go.Vc.mark D}
def fnI:Value→FuncId|.func (.func f) _ _=>f|_=>0
def fnC:Value→Array Value|.func _ _ c=>c|_=>#[]
def rfT {α:Type} (rd:Bool) (g:Operand) (p q:Nat) (ps:Array Tmp) (s:St) (V:Iv α) (ik:Nat) (xs:List α) (k:Nat→Nat→T):T:=.ok (!rd&&has s.L g&&Nat.blt p n&&Nat.blt q n) (.eq s.B [] (.eq s.D [] (.eq ps #[p,q] (.eq (ev s.L g) (.func (.func (fnI (ev s.L g))) #[] (fnC (ev s.L g))) (.eqF (kall [ik] s.F) [.pm (IterOk P (fnI (ev s.L g)) (fnC (ev s.L g)).toList V.vals xs)] (k p q))))))
def rJ {σ:Type} (s:St) (J:σ→Zs→(Nat→Nat)→Jn) (M:Mem):σ→Mem→List Ent→Prop:=λx M' E=>∃z,E=vals ((J x z s.bl).rs s).E∧M.le M'∧Fh M' (vals ((J x z s.bl).rs s).F)
def rf (ds:List (D P n)) {σ β α:Type} {Y:σ→α→Option (Lp σ β)} {xs:List α} {s0:σ} {kk:Lp σ β→Option ρ} (V:Iv α) (ik fk:Nat) (o0:Out) (J:σ→Zs→(Nat→Nat)→Jn) (J2:β→Zs→(Nat→Nat)→Jn) (da:List (D P n)) (A: ∀s x,W P n (Y s x)) (k:Ko P n kk):W P n ((iN Y xs s0).bind kk) where
 ck rd fin f s:=go P n rd .no (λf s=>match f with
  |.code (.rangeFunc g ps asg body) ls=>rfT (P:=P) (n:=n) rd g (ps.getD 0 0) (ps.getD 1 0) ps s V ik xs λp q=>(
   .and ((J s0 (o0.zs s) s.bl).rfit s o0 s)
   (.and (.all λx=>.all λy=>.all λz=>.all λzi=>go P n true .no (λf s1=>match f with
    |.ex .normal []=>.eq s1.B [] ((A x y).ck true (λr o f' s'=>match f' with
     |.ex e []=>(match r with
      |.nx x'=>.eq e .normal ((J x' (o.zs s') s.bl).rfit s o s')
      |.br b=>.eq e (jmp (J2 b (λ_=>{}) s.bl).e).way ((J2 b (o.zs s') s.bl).rfit s o s'))
     |_=>.no) (.code body []) s1)
    |_=>.no) 4000 da (.code asg []) (((J x z s.bl).rs s).itm V p q fk y zi))
   (.all λz=>.all λD=>k.ck rd fin (λr=>match r with
    |.nx _=>.ex .normal ls
    |.br b=>.ex (jmp (J2 b (λ_=>{}) s.bl).e).way ls) (λr=>match r with
    |.nx x=>((J x z s.bl).rs s).mk9 D
    |.br b=>((J2 b z s.bl).rs s).mk9 D))))
  |_=>.no) 4000 ds f s
 ok cn fin r er f s h hk:=by
  obtain⟨cw0,cM0,Hc,B,ro,lo⟩:=cn
  refine mB (λf s h=>?_) _ _ _ _ h
  split at h
  · rename_i g ps asg body ls
    unfold rfT at h
    generalize ps.getD 0 0=p at h
    generalize ps.getD 1 0=q at h
    obtain⟨h0,hB,hD,rfl,hg,h2,h3,h4,h5⟩:=h
    · generalize fnI (ev s.L g)=fi at hg h2
      generalize fnC (ev s.L g)=caps at hg h2
      simp only[Bool.and_eq_true] at h0
      obtain⟨⟨⟨h01,h02⟩,h03⟩,h04⟩:=h0
      cases ro with
      |some _=>cases h01
      |none=>
      obtain⟨j,hx,hr⟩:=Option.bind_eq_some_iff.1 er
      intro M a w hM hf hp hF
      rw[hD] at hf
      obtain⟨i2,i3⟩:=Jn.rfit_ok h3 (Mem.le_refl M) hF hp hF
      have hit:IterOk P fi caps.toList V.vals xs M:=by
       have:=(h2▸hF.kall [ik]) _ (List.mem_singleton.2 rfl)
       exact this M (Mem.le_refl M)
      have mono: ∀ {F:List Fa} {M1 M2:Mem},M1.le M2→M.le M1∧Fh M1 F→M.le M2∧Fh M2 F:=λh12 ⟨g1,g2⟩=>⟨g1.trans h12,g2.mo h12⟩
      refine RI_in (R_range2 (σ:=σ) (β:=β) (vals:=V.vals) (Y:=Y) (w0:=cw0) (M:=M) (H:=Hc) (E0:=vals ((J s0 (o0.zs s) s.bl).rs s).E) (f:=fi) (caps:=caps.toList) (n:=n) (Lf:=s.L) hf i2 h02 (by rw[hg]) h03 h04 hit.1
       (rJ s J M) (rJ s J2 M) (λb=>jmp (J2 b (λ_=>{}) s.bl).e) s0 j ⟨_,rfl,Mem.le_refl M,i3⟩
       (λx M1 M2 E hM ⟨z,e,h⟩=>⟨z,e,mono hM h⟩) (λx M1 M2 E hM ⟨z,e,h⟩=>⟨z,e,mono hM h⟩) (λM x l h=>by obtain⟨z,e,_⟩:=V.opn h;exact⟨_,_,e⟩) (hit.2 _ _ _ _ _ hx) ?_ ?_ ?_)
      · rintro x y r' hs l w0' M1 E1 Hr w1 a1 v u hM1 ⟨z,rfl,hM2,hF1⟩ hv hp1 hf1
        obtain⟨zi,ev,hF2⟩:=V.opn hv
        obtain⟨rfl,rfl⟩:v=V.v y∧u=V.u y zi:=by simpa using ev
        have h4':=h4 x y z zi
        let B1:Exit→Act→World→Prop:=Exit.then (λa2 w2=>∃M2 E2,M1.le M2∧Hp w0' M2 (E2++Hr) w2∧∀Hr' w3,Hp w0' M2 (E2++Hr') w3→body.wr (some l) P (RB (rJ s J M) (rJ s J2 M) (λb=>jmp (J2 b (λ_=>{}) s.bl).e) r' w0' M2 Hr') a2 w3) (λ_ _ _=>False)
        have lo1: ¬LetsOut B1:=then_out F_out
        have key:=mB (P:=P) (n:=n) (c:=⟨w0',M1,Hr,B1,some l,λ_=>lo1⟩) (sp:=.no) (λf1 s1 g=>?_) 4000 da (.code asg []) _ h4'
        · refine key M1 a1 w1 (Mem.le_refl M1) hf1 hp1 ?_
          show Fh M1 (vals (nums fk (V.F y zi)++((J x z s.bl).rs s).F))
          rw[show vals (nums fk (V.F y zi)++((J x z s.bl).rs s).F)=V.F y zi++vals ((J x z s.bl).rs s).F from(List.map_append ..).trans (congrArg (· ++_) (gb _ _))]
          exact hF2.app hF1
        · intro M2 a2 w2 g1 g2 g3 g4
          split at g
          · obtain⟨eB,g⟩:=g
            rw[eB] at g3
            refine⟨M2,vals s1.E,g1,g3,λHr' w3 hp3=>?_⟩
            refine(A x y).ok ⟨w0',M2,Hr',RB (rJ s J M) (rJ s J2 M) (λb=>jmp (J2 b (λ_=>{}) s.bl).e) r' w0' M2 Hr',some l,λ_=>RB_out⟩ _ r' hs (.code body []) s1 g (λo f' s' h'=>?_) M2 a2 w3 (Mem.le_refl M2) g2 (by rw[eB];exact hp3) g4
            split at h'
            · rename_i e
              intro M3 a3 w4 k1 k2 k3 k4
              cases r' with
              |nx x'=>
               obtain⟨rfl,h'⟩:=h'
               obtain⟨m1,m2⟩:=Jn.rfit_ok h' ((hM2.trans g1).trans k1) hF k3 k4
               show RB (rJ s J M) (rJ s J2 M) (λb=>jmp (J2 b (λ_=>{}) s.bl).e) (.nx x') w0' M2 Hr' .normal a3 w4
               exact RB_n ⟨M3,_,k1,m1,_,rfl,(hM2.trans g1).trans k1,m2⟩
              |br b=>
               obtain⟨e1,h'⟩:=h'
               obtain⟨m1,m2⟩:=Jn.rfit_ok h' ((hM2.trans g1).trans k1) hF k3 k4
               show RB (rJ s J M) (rJ s J2 M) (λb=>jmp (J2 b (λ_=>{}) s.bl).e) (.br b) w0' M2 Hr' e a3 w4
               exact RB_x e1 ⟨M3,_,k1,m1,_,rfl,(hM2.trans g1).trans k1,m2⟩
            · exact h'.elim
          · exact g.elim
      · rintro x rfl l D rr M1 E1 w1 a1 hM1 ⟨z,rfl,hM2,hF1⟩ hp1 hf1
        have:=k.ok ⟨cw0,cM0,Hc,B,none,lo⟩ fin r (.nx x) hr _ _ (h5 z D) hk M1 a1 w1 (hM.trans hM1) hf1 hp1.drop hF1
        exact this
      · rintro b rfl l D rr M1 E1 w1 a1 hM1 ⟨z,rfl,hM2,hF1⟩ hp1 hf1
        have:=k.ok ⟨cw0,cM0,Hc,B,none,lo⟩ fin r (.br b) hr _ _ (h5 z D) hk M1 a1 w1 (hM.trans hM1) hf1 hp1.drop hF1
        exact this
  · exact h.elim
def isDf (e:Option Ent):Bool:=match e with|some (.obj _ (.deferred (some [])))=>true|_=>false
theorem isDf_spec {e:Option Ent} (h:isDf e=true):e=some (.obj (bE e) (.deferred (some []))):=by
 unfold isDf at h
 split at h
 ·rfl
 cases h
def finM (P:Program) (fn:Func) (post:ρ→Zs→Res) (r:ρ) (o:Out) (f:Foc) (s:St):T:=match f with|.ex .ret []|.ex .normal []=>(match s.D with|[]=>endT P fn post r o s|D=>.ok (isDf (kget 9999 s.E)) (.eq D (Go.Vc.mark (bE (kget 9999 s.E))) (endT P fn post r o {s with E:=kdel 9999 s.E})))|_=>.no
theorem finM_ok {fn:Func} {post:ρ→Zs→Res} {r:ρ} {o:Out} {f:Foc} {s:St} {w0:World} {M2:Mem} {H:List Ent} {R:Ending→World→Prop} (h: (finM P fn post r o f s).holds)
 (hR: ∀w M' z,M2.le M'→Hp w0 M' ((post r z).E++H) w→Fh M' (post r z).F→R (.returned (post r z).v) w):Sat P n ⟨w0,M2,H,bodyPostM Fence.wide 0 P fn R,none,nolo⟩ f s:=by
 intro M a w h1 h2 h3 h4
 replace h3:=h3.noB
 have key: (match s.D with
  |[]=>endT P fn post r o s
  |D=>.ok (isDf (kget 9999 s.E)) (.eq D (Go.Vc.mark (bE (kget 9999 s.E))) (endT P fn post r o {s with E:=kdel 9999 s.E})):T).holds→bodyPostM Fence.wide 0 P fn R .ret a w:=λh=>by
  split at h
  ·rename_i e
   rw[e] at h2
   obtain⟨k1,k2,k3⟩:=AG h h2 h3 h4
   exact E_M0 h2 ⟨_,k1,hR w M _ h1 k2 k3⟩
  obtain⟨g1,g2,g3⟩:=h
  rw[g2] at h2
  have hp':=h3.perm ((aW (isDf_spec g1)).1.append_right _)
  refine E_M1 h2 hp' λw' hp2=>?_
  obtain⟨k1,k2,k3⟩:=AG g3 h2 hp2 h4
  exact⟨_,k1,hR w' M _ h1 k2 k3⟩
 unfold finM at h
 split at h
 ·exact key h
 ·exact key h
 exact h.elim
theorem fnM {F:List Fa} {E:List Ent} {f:FuncId} {args:Lv} {g:Option ρ} {post:ρ→Zs→Res} {fn:Func} {c:Code} (n:Nat) (hf:P.funcs[f]? =some fn) (W0:W P n g) (hb:fn.body=some c:=by rfl) (hn:fn.ntmps=n:=by rfl) (hl:args.length≤n:=by simp)
 (h:W0.ck false (finM P fn post) (.code c []) {L:=frame0 args 0,E:=nums 0 E,F:=nums 0 F}=(W0.ck false (finM P fn post) (.code c []) {L:=frame0 args 0,E:=nums 0 E,F:=nums 0 F}).diag:=by kernel_rfl):OkC P F E f args g post:=by
 intro M hF r hr M2 hM2 w0 H w hp
 refine R_enterM n hf hb hn hl λa ha=>?_
 refine RI_out ?_
 refine W0.ok ⟨w0,M2,H,bodyPostM Fence.wide 0 P fn λe w'=>∃v,e=.returned v∧∃M' E',M2.le M'∧Hp w0 M' (E'++H) w'∧∃z,v=(post r z).v∧E'=(post r z).E∧Fh M' (post r z).F,none,nolo⟩ (finM P fn post) r hr _ _ (T.chk h) ?_ M2 a w (Mem.le_refl _) ha (by show Hp w0 M2 (vals (nums 0 E)++H) w;rw[gb];exact hp) (by show Fh M2 (vals (nums 0 F));rw[gb];exact hF.mo hM2)
 intro o f' s' h'
 exact finM_ok h' λw M' z g1 g2 g3=>⟨_,rfl,M',_,g1,g2,z,rfl,rfl,g3⟩
section
variable {V κ:Type}
def mmK (ek:κ→Value) (j:Nat) (ev:V→Value):D P n:=.l {
 ck:=λops s o k _=>.eq (bv ops s.L o) (some true) (.ok (bX s.L o) (.eq o.dst (some (dstO o)) (.ok (Nat.blt (dstO o) n) (.eq o.op (.makeMap (mkT o) none)
  (.all λb=>k {s with L:=(dstO o,.map (some b))::s.L,E:=(j,.obj b (kl ek ev []))::s.E})))))
 ok:=λc ops Q s o rest k kx h hk _=>by
  obtain⟨h1,h2,h3,h4,h5,h6⟩:=h
  intro M a w hM hf hp hF
  exact Bc ek ev hf hp h1 h2 h3 h4 h5 λb w' hp' a' hf'=>hk _ (h6 b) M a' w' hM hf' hp' hF}
variable [DecidableEq κ] {kt:TypeId} {enc:κ→Value}
def miS (K:KeyRun P kt enc) (j:Nat) (ev:V→Value) (m:List (κ×V)) (x:κ) (v:V):D P n:=.l {
 ck:=λops s o k _=>match kget j s.E with
  |some (.obj b ob)=>.eq (bv ops s.L o) (some true) (.ok (bX s.L o) (.eq o.dst none (.eq o.op (bif isUp o then .mapUpdate (mIn o).1 (mIn o).2.1 (mIn o).2.2.1 (mIn o).2.2.2 else .insert (mIn o).1 (mIn o).2.1 (mIn o).2.2.1 (mIn o).2.2.2)
   (.eq (Vc.ev s.L (mIn o).2.1) (.map (some b)) (.eq (Vc.ev s.L (mIn o).2.2.1) (enc x) (.eq (Vc.ev s.L (mIn o).2.2.2) (ev v) (.eq (P.underlying (mIn o).1) (some (.map kt (mapK P (mIn o).1).2))
   (.eq ob (kl enc ev m) (k {s with E:=kput j (.obj b (kl enc ev (jv m x v))) s.E})))))))))
  |_=>.no
 ok:=λc ops Q s o rest k kx h hk _=>by
  split at h
  · rename_i b ob e
    obtain⟨h1,h2,h3,h4,h5,h6,h7,h8,rfl,h10⟩:=h
    intro M a w hM hf hp hF
    refine W_mapputS hf (hp.perm ((aW e).1.append_right _)) h1 h2 h3 (t:=(mIn o).1) ?_ h5 h6 h7 h8 K λw' hp' a' hf'=>hk _ h10 M a' w' hM hf' (hp'.perm (((aW e).2 _).symm.append_right _)) hF
    cases hu:isUp o with
    |true=>rw[hu] at h4;exact .inl h4
    |false=>rw[hu] at h4;exact .inr h4
  · exact h.elim}
def mlS (K:KeyRun P kt enc) (j:Nat) (ev:V→Value) (m:List (κ×V)) (x:κ) (z:V):D P n:=.q {
 v:=λ_ _=>ev ((eS m x).getD z)
 ck:=λs o=>match kget j s.E with
  |some (.obj b ob)=>.eq ob (kl enc ev m) (.eq o.op (.lookup (lkT o) (lkX o) (lkY o) false) (.eq (Vc.ev s.L (lkX o)) (.map (some b)) (.eq (Vc.ev s.L (lkY o)) (enc x) (.eq (P.underlying (lkT o)) (some (.map kt (mapK P (lkT o)).2))
   (.eq ((P.info? (mapK P (lkT o)).2).bind (·.zero)) (some (ev z)) .done)))))
  |_=>.no
 ok:=λs o hh {w0 M H w} hp hF=>by
  split at hh
  · rename_i b ob e
    obtain⟨rfl,h1,h2,h3,h4,h5,_⟩:=hh
    exact X_lookup1S (ev:=ev) (z:=z) h1 h2 h3 h4 K h5 (hp.own _ (List.mem_append_left _ (kB e))).2
  · exact hh.elim}
def ml2 (j:Nat) (ev:V→Value) (m:List (Bs×V)) (x:Bs) (z:V):D P n:=.q {
 v:=λ_ _=>.tuple #[ev ((eS m x).getD z),.bool (eS m x).isSome]
 ck:=λs o=>match kget j s.E with
  |some (.obj b ob)=>.eq ob (kl S ev m) (.eq o.op (.lookup (lkT o) (lkX o) (lkY o) true) (.eq (Vc.ev s.L (lkX o)) (.map (some b)) (.eq (Vc.ev s.L (lkY o)) (S x) (.eq (P.underlying (lkT o)) (some (.map (mapK P (lkT o)).1 (mapK P (lkT o)).2))
   (.eq ((P.info? (mapK P (lkT o)).2).bind (·.zero)) (some (ev z)) (.eq (P.underlying (mapK P (lkT o)).1) (some .string) .done))))))
  |_=>.no
 ok:=λs o hh {w0 M H w} hp hF=>by
  split at hh
  · rename_i b ob e
    obtain⟨rfl,h1,h2,h3,h4,h5,h6,_⟩:=hh
    exact X_lookup2 (ev:=ev) (z:=z) h1 h2 h3 h4 (strKey h6) h5 (hp.own _ (List.mem_append_left _ (kB e))).2
  · exact hh.elim}
end
def c3 (k i:Nat) {α:Type} (Y:Ty α) {xs:List α} {b:Int} (h:0≤b∧b≤xs.length):D P n:=.l {
 ck:=λops s o kt _=>match kget k s.F with
  |some (.sli sz f A c ys)=>.ok (okO ops n s.L o) (.eq o.op (.slice (slT o) (slX o) none (some (slB o)) (some (slC o))) (.eqF [.sli sz f A c ys] [.sli Y.sz Y.f A c xs] (.eq (Vc.ev s.L (slX o)) (.slice A xs.length c) (.eq (Vc.ev s.L (slB o)) (.int (kindV (Vc.ev s.L (slB o))) b) (.eq (Vc.ev s.L (slC o)) (.int (kindV (Vc.ev s.L (slC o))) b) (.eq (P.underlying (slT o)) (some (.slice (argE P (slT o)))) (.ok (szIs P (argE P (slT o)) Y.sz)
   (kt {s with L:=(dstO o,.slice (cutA A Y.sz 0 b.toNat) (xs.take b.toNat).length (xs.take b.toNat).length)::s.L,F:=(i,.sli Y.sz Y.f (cutA A Y.sz 0 b.toNat) (xs.take b.toNat).length (xs.take b.toNat))::s.F}))))))))
  |_=>.no
 ok:=λc0 ops Q s o rest kt kx hh hk _=>by
  split at hh
  · rename_i β sz f A c ys e
    obtain⟨h1,h2,h3,h4,h5,h6,h7,h8,h9⟩:=hh
    intro M a0 w hM hf hp hF
    have g: (Fa.sli Y.sz Y.f A c xs).at M:=(List.cons.inj h3).1▸hF.kget e
    have hl:=Sli.len g
    have hx:=X_slice3 (w:=w) h2 h4 h5 h6 h7 h8 h.1 (by omega)
    have e1:b.toNat=(xs.take b.toNat).length:=by rw[List.length_take];omega
    refine ku (v:=.slice (cutA A Y.sz 0 b.toNat) (xs.take b.toNat).length (xs.take b.toNat).length) hf h1 (by rw[←e1];exact hx) λa' hf'=>hk _ h9 M a' w hM hf' hp (.cons (Sli.full g (by omega)) hF)
  · exact hh.elim}
def aF (i0 i k:Nat) {α:Type} (Y:Ty α) {xs ys:List α} {by_:Nat} (hb: (xs.length+ys.length)*by_≤140737488355328):D P n:=.l {
 ck:=λops s o kt _=>match kget i0 s.F,kget i s.F with
  |some (.sli sz1 f1 A c1 xs1),some (.sli sz2 f2 B cB ys2)=>appT P n ops s o (argE P (argT o 0)) Y.sz by_ (.slice A xs.length xs.length) (.eq (argT o 1) (argT o 0) (.eqF [.sli sz1 f1 A c1 xs1,.sli sz2 f2 B cB ys2] [.sli Y.sz Y.f A xs.length xs,.sli Y.sz Y.f B cB ys] (.eq (Vc.ev s.L (argO o 1)) (.slice B ys.length cB) (.ok (Nat.ble 1 Y.sz)
   (.all λz:Z=>kt {s with L:=(dstO o,.slice z.A (xs++ys).length z.c)::s.L,F:=(k,.sli Y.sz Y.f z.A z.c (xs++ys))::s.F})))))
  |_,_=>.no
 ok:=λc ops Q s o rest kt kx h hk _=>by
  split at h
  · rename_i β sz1 f1 A c1 xs1 γ sz2 f2 B cB ys2 e1 e2
    obtain⟨h1,h2,h3,h4,h5,h6,h7,h8,h0,h9⟩:=h
    obtain⟨i1,i2,i3,i4⟩:=kC h1
    obtain⟨j1,j2⟩:=Bool.and_eq_true_iff.1 h5
    intro M a w hM hf hp hF
    have l1:=List.cons.inj h7
    have l2:=List.cons.inj l1.2
    have g1: (Fa.sli Y.sz Y.f A xs.length xs).at M:=l1.1▸hF.kget e1
    have g2: (Fa.sli Y.sz Y.f B cB ys).at M:=l2.1▸hF.kget e2
    have h63:xs.length+ys.length≤140737488355328:=Nat.le_trans (Nat.le_mul_of_pos_right _ (Nat.le_of_ble_eq_true j2)) hb
    rw[h6] at h2
    refine W_appendFS hf hp (Nat.le_of_ble_eq_true h0) Y.szd g1 g2 i1 i2 i3 i4 h2 h3 h8 h4 j1 hb (by omega) λA' c' M' w' hM' hp2 hr a' ha=>?_
    exact hk _ (h9 {A:=A',c:=c'}) M' a' w' (hM.trans hM') ha hp2 (.cons hr (hF.mo hM'))
  · exact h.elim}
def Sg (j k0 i k off:Nat) {α:Type} (Y:Ty α) {xs:List α} {it:Int} {x0:α} (hx:aq xs it=some x0) (xv:α) (is:List Nat) {m:Nat} (hm:xs.length=m):D P n:=.l {
 ck:=λops s o kt _=>match kget j s.E,kget k0 s.F,kget i s.F,kget (i+1) s.F with
  |some (.row e sz (.slice A m1 c) m2 cs),some φ,some (.re A1 b1 cs1 kk c1),some (.ix A' it' len ad)=>
   .ok (okStR P ops s.L o 1) (.eq sz Y.sz (.eq m1 m (.eq m2 m (.eqF [φ] [.seq Y.sz Y.f xs cs] (.eq A A' (.eq A1 A' (.eq cs1 cs (.eq kk (it.toNat*Y.sz)
    (.eq (Vc.ev s.L (stX o)) (.pointer (some ((ad.add (it.toNat*Y.sz)).add off))) (.eq (Y.cells xv (zsOf s is [])) (setL c1 off [Vc.ev s.L (stY o)]) (.eq c1.length Y.sz (.ok (Nat.blt off c1.length) (.eqF (kall is s.F) (Y.facts xv (zsOf s is []))
    (kt {s with E:=kput j (.row e Y.sz (.slice A m c) m (cs.set (it.toNat*Y.sz+off) (Vc.ev s.L (stY o)))) s.E,F:=(k,.seq Y.sz Y.f (xs.set it.toNat xv) (cs.set (it.toNat*Y.sz+off) (Vc.ev s.L (stY o))))::(i,.re A b1 (cs.set (it.toNat*Y.sz+off) (Vc.ev s.L (stY o))) (it.toNat*Y.sz) (setL c1 off [Vc.ev s.L (stY o)]))::s.F}))))))))))))))
  |_,_,_,_=>.no
 ok:=λc0 ops Q s o rest kt kx h hk _=>by
  intro M a w hM hf hp hF
  split at h
  · rename_i e sz A m1 c m2 cs φ A1 b1 cs1 kk c1 A' it' len ad e1 e2 e3 e4
    subst hm
    obtain⟨h1,rfl,rfl,rfl,h5,rfl,rfl,rfl,rfl,h7,h8,h9,h10,h11,h12⟩:=h
    have g1: (Fa.seq Y.sz Y.f xs cs1).at M:=(List.cons.inj h5).1▸hF.kget e2
    obtain⟨g0,g3⟩:=hF.kget e3
    obtain⟨g2,_,_⟩:=hF.kget e4
    have hp':=hp.perm ((aW e1).1.append_right _)
    obtain⟨b,cap,k1,_⟩:=hp'.rowAddr 0 rfl (sv hx)
    obtain⟨k2,_,_⟩:=Value.slice.inj k1
    rw[k2] at g2
    obtain rfl:=Option.some.inj g2
    have hs:=Y.shut (h11▸hF.kall is)
    rw[h8] at hs
    have hoff:off<c1.length:=by simpa [Nat.blt_eq] using h10
    unfold okStR at h1
    simp only[Bool.and_eq_true] at h1
    obtain⟨⟨⟨i1,i2⟩,i3⟩,i4⟩:=h1
    split at i1
    · rename_i i1'
      split at i4
      · rename_i t x y he
        have hx':Vc.ev s.L x=.pointer (some (((⟨b,0,none⟩:Addr).add (it.toNat*Y.sz)).add off)):=by simpa [stX,he] using h7
        have hy':Vc.ev s.L y=Vc.ev s.L (stY o):=by simp[stY,he]
        have hset:c1.set off (Vc.ev s.L (stY o))=setL c1 off [Vc.ev s.L (stY o)]:=setL_one c1 off _
        have hseq:au M [Y.f xv] (setL c1 off [Vc.ev s.L (stY o)]):=⟨_,[],(List.append_nil _).symm,hs,rfl⟩
        have hone: (Vc.ev s.L (stY o)).oneCell'=true:=au.oneC _ _ hseq _ (by rw[←hset];exact List.mem_iff_getElem?.2 ⟨off,by simp[hoff]⟩)
        refine zr (it:=it) (off:=off) (xv:=xv) (c0:=c1) hf hp' (by rw[k2]) i1' i2 (by simpa using i3) he hx' hy' hone i4 Y.szd hx g1.1 h9 g3 hoff hset hs λw' hp2 hr a' ha=>?_
        rw[List.length_set] at hp2
        exact hk _ h12 M a' w' hM ha (hp2.perm (((aW e1).2 _).symm.append_right _)) (.cons ⟨hr,Y.szd⟩ (.cons ⟨g0,re_set g3 hoff⟩ hF))
      · cases i4
    · cases i1
  · exact h.elim}
def rF (j:Nat) {α:Type} {xs:List α} {a:Int} (h:0≤a∧a≤xs.length):D P n:=.q {
 v:=λs o=>match kget j s.E with
  |some (.row e sz (.slice A m c) _ _)=>.slice (cutA A sz a.toNat c) (xs.length-a.toNat) (c-a.toNat)
  |_=>undef
 ck:=λs o=>match kget j s.E with
  |some (.row e sz (.slice A m c) _ _)=>slF o (.eq m xs.length (.eq (Vc.ev s.L (slX o)) (.slice A m c) (.eq (Vc.ev s.L (slA o)) (.int (kindV (Vc.ev s.L (slA o))) a) (.eq (P.underlying (slT o)) (some (.slice (argE P (slT o)))) (.ok (szIs P (argE P (slT o)) sz) .done)))))
  |_=>.no
 ok:=λs o hh {w0 M H w} hp hF=>by
  split at hh
  · rename_i e sz A m c _ _ e1
    obtain⟨h2,rfl,h4,h5,h6,h7,_⟩:=hh
    exact zt h2 h4 h5 h6 h7 h.1 h.2
  · exact hh.elim}
def aP (j k0 j2 k2 k:Nat) {α:Type} (Y:Ty α) {xs ys:List α} {a:Int} {by_:Nat} (ha:0≤a∧a≤ys.length) (hb: (xs.length+ (ys.length-a.toNat))*by_≤140737488355328):D P n:=.l {
 ck:=λops s o kt _=>match kget j s.E,kget j2 (kdel j s.E),kget k0 s.F,kget k2 s.F with
  |some (.row e sz v m cs),some (.row e2 sz2 (.slice A m1 c) m2 cs2),some φ,some φ2=>appT P n ops s o e Y.sz by_ v (.eq m xs.length (.eq sz Y.sz (.eq e2 e (.eq sz2 Y.sz (.eq m1 ys.length (.eq m2 ys.length (.eq (argT o 1) (argT o 0) (.eqF [φ,φ2] [.seq Y.sz Y.f xs cs,.seq Y.sz Y.f ys cs2] (.eq (Vc.ev s.L (argO o 1)) (.slice (cutA A Y.sz a.toNat c) (ys.length-a.toNat) (c-a.toNat))
   (.all λz:Z=>kt {s with L:=(dstO o,.slice z.A (xs++(ys.take ys.length).drop a.toNat).length z.c)::s.L,E:=kput j (.row e Y.sz (.slice z.A (xs++(ys.take ys.length).drop a.toNat).length z.c) (xs++(ys.take ys.length).drop a.toNat).length z.k) s.E,F:=(k,.seq Y.sz Y.f (xs++(ys.take ys.length).drop a.toNat) z.k)::s.F}))))))))))
  |_,_,_,_=>.no
 ok:=λc0 ops Q s o rest kt kx h hk _=>by
  split at h
  · rename_i e sz v m cs e2 sz2 A m1 c m2 cs2 φ φ2 q1 q2 q3 q4
    obtain⟨h1,h2,h3,h4,h5,rfl,rfl,rfl,rfl,rfl,rfl,h6,h7,h8,h9⟩:=h
    obtain⟨i1,i2,i3,i4⟩:=kC h1
    obtain⟨j1,j2⟩:=Bool.and_eq_true_iff.1 h5
    intro M a0 w hM hf hp hF
    have l1:=List.cons.inj h7
    have l2:=List.cons.inj l1.2
    have g1: (Fa.seq Y.sz Y.f xs cs).at M:=l1.1▸hF.kget q3
    have g2: (Fa.seq Y.sz Y.f ys cs2).at M:=l2.1▸hF.kget q4
    have hp':=(hp.perm ((aW q1).1.append_right _)).perm (((aW q2).1.append_right (s.B++c0.H)).cons _)
    have h63:xs.length+ (ys.length-a.toNat)≤140737488355328:=Nat.le_trans (Nat.le_mul_of_pos_right _ (Nat.le_of_ble_eq_true j2)) hb
    rw[h6] at h2
    refine W_appendP hf hp' Y.szd g1.1 g2.1 1 rfl rfl (lo:=a.toNat) (hi:=ys.length) (by omega) (Nat.le_refl _) i1 i2 i3 i4 h2 h3 h8 h4 j1 hb (by omega) λA' c' cs' w' hp2 hr a' hf'=>?_
    exact hk _ (h9 {A:=A',c:=c',k:=cs'}) M a' w' hM hf' ((hp2.perm (((aW q2).1.symm.append_right (s.B++c0.H)).cons _)).perm (((aW q1).2 _).symm.append_right _)) (.cons ⟨hr,Y.szd⟩ hF)
  · exact h.elim}
variable {P:Program} {n:Nat} {ρ:Type}
def mR (j i:Nat) (kd:IntKind) {m:Int} {c:Nat} (hb:0≤m∧m*c≤140737488355328∧m≤140737488355328):D P n:=.l {
 ck:=λops s o kt _=>.ok (okO ops n s.L o) (.eq s.B [] (.eq o.op (.makeSlice (mkS3 o).1 (mkS3 o).2.1 (mkS3 o).2.2) (.eq (Vc.ev s.L (mkS3 o).2.1) (.int .i64 m) (.eq (Vc.ev s.L (mkS3 o).2.2) (.int .i64 m) (.eq (P.underlying (mkS3 o).1) (some (.slice (argE P (mkS3 o).1)))
  (.eq ((P.info? (argE P (mkS3 o).1)).map (λi=>(i.zero,i.size,i.bytes))) (some (some (.slice none 0 0),1,c))
  (.all λb=>kt {s with L:=(dstO o,.slice (some ⟨b,0,none⟩) m.toNat m.toNat)::s.L,E:=(j,.obj b (.cells (List.replicate m.toNat (.slice none 0 0)).toArray (argE P (mkS3 o).1) (0,0)))::s.E,F:=(i,.ln (List.replicate m.toNat (.slice none 0 0)) (List.replicate m.toNat ([]:CD)).length m.toNat)::s.F,B:=rbag (argE P (argE P (mkS3 o).1)) kd (List.replicate m.toNat []) (List.replicate m.toNat (.slice none 0 0))})))))))
 ok:=λcn ops Q s o rest kt kx h hk _=>by
  obtain⟨h1,hB,h2,h3,h4,h5,h6,h7⟩:=h
  obtain⟨i1,i2,i3,i4⟩:=kC h1
  intro M a w hM hf hp hF
  rw[hB] at hp
  exact W_makeRR (k:=kd) (e2:=argE P (argE P (mkS3 o).1)) (vals s.E) hf hp i1 i2 i3 i4 h2 h3 h4 h5 h6 hb λb w' hp' a' ha=>hk _ (h7 b) M a' w' hM ha hp' (.cons ⟨by simp,by simp⟩ hF)}
def pR (j k i r:Nat) (e:TypeId) (kd:IntKind) {d:List CD} {it:Int} {x:CD} (hx:aq d it=some x):D P n:=.im {
 ck:=λs kt=>match kget j s.E,kget k s.F with
  |some (.obj b _),some (.ln hs l m)=>.eq l d.length (.eq s.B (rbag e kd d hs) (.all λz:Z=>kt {s with E:=(r,.row e 1 (.slice z.A x.length z.c) x.length (x.map (Value.int kd)))::s.E,F:=(i,.ix (some ⟨b,0,none⟩) it m ⟨b,0,none⟩)::(i+1,.hd hs it.toNat (.slice z.A x.length z.c))::(i+2,.seq 1 (Dat.int kd) x (x.map (Value.int kd)))::s.F,B:=rbag e kd (d.eraseIdx it.toNat) (hs.eraseIdx it.toNat)}))
  |_,_=>.no
 ok:=λc s kt G h hk=>by
  split at h
  · rename_i b ob hs l m e1 e2
    obtain⟨rfl,hB,h3⟩:=h
    intro M a w hM hf hp hF
    obtain⟨g1,g2⟩:=hF.kget e2
    rw[hB] at hp
    obtain⟨A,cap,g3,g4⟩:=Hp.rbagPull (vals s.E) hp g1 hx
    exact hk _ (h3 {A:=A,c:=cap}) M a w hM hf g4 (.cons ⟨rfl,lZ hx,g2▸lY hx⟩ (.cons g3 (.cons ⟨vm x,AR kd⟩ hF)))
  · exact h.elim}
def lR (j h:Nat):D P n:=.q {
 v:=λs o=>match kget h s.F with
  |some (.hd _ _ v)=>ldV P o 0 [v]
  |_=>undef
 ck:=λs o=>match kget j s.E,kget h s.F with
  |some (.obj b (.cells cs T fr)),some (.hd hs i v)=>.eq cs.toList hs (.ok (okLd P o 0 [v]) (.eq (Vc.ev s.L (ldX o)) (.pointer (some (((⟨b,0,none⟩:Addr).add (i*1)).add 0))) .done))
  |_,_=>.no
 ok:=λs o hh {w0 M H w} hp hF=>by
  split at hh
  · rename_i b cs T fr hs i v e1 e2
    obtain⟨h1,h2,h3,_⟩:=hh
    rw[e2]
    refine XL (base:=(⟨b,0,none⟩:Addr).add (i*1)) (λk u hu=>?_) 0 h3 h2
    cases k with
    |succ k=>simp at hu
    |zero=>
     have hu':v=u:=by simpa using hu
     subst hu'
     rw[Nat.mul_one,Addr.add_lit,Nat.zero_add,Addr.add_lit,Nat.add_zero,BD hp (List.mem_append_left _ (kB e1)) i]
     have this:hs[i]? =some v:=hF.kget e2
     rw[←h1] at this
     simpa using this
  · exact hh.elim}
def wR (j k i:Nat):D P n:=.l {
 ck:=λops s o kt _=>match kget j s.E,kget k s.F,kget i s.F with
  |some (.obj b (.cells cs T fr)),some (.ln hs l m),some (.ix A it m' ad)=>.ok (okStR P ops s.L o 1) (.eq fr (0,0) (.eq cs.toList hs (.eq m' m (.eq (Vc.ev s.L (stX o)) (.pointer (some ((⟨b,0,none⟩:Addr).add (it.toNat*1)))) (.ok (Vc.ev s.L (stY o)).oneCell'
   (kt {s with E:=kput j (.obj b (.cells (hs.set it.toNat (Vc.ev s.L (stY o))).toArray T (0,0))) s.E}))))))
  |_,_,_=>.no
 ok:=λc ops Q s o rest kt kx h hk _=>by
  split at h
  · rename_i b cs T fr hs l m A it m' ad e1 e2 e3
    obtain⟨h1,rfl,h3,rfl,h6,h7,h8⟩:=h
    intro M a w hM hf hp hF
    obtain⟨g1,g2⟩:=hF.kget e2
    obtain⟨_,g4,g5⟩:=hF.kget e3
    have hp':=hp.perm ((aW e1).1.append_right _)
    unfold okStR at h1
    simp only[Bool.and_eq_true] at h1
    obtain⟨⟨⟨i1,i2⟩,i3⟩,i4⟩:=h1
    split at i1
    · rename_i i1'
      split at i4
      · rename_i t x y he
        have hx':Vc.ev s.L x=.pointer (some ((⟨b,0,none⟩:Addr).add (it.toNat*1))):=by simpa [stX,he] using h6
        have hy':Vc.ev s.L y=Vc.ev s.L (stY o):=by simp[stY,he]
        refine W_storeRR (hs:=hs) hf hp' 0 i1' i2 (by simpa using i3) he hx' hy' h7 i4 (by rw[←h3,Array.toArray_toList];rfl) (by omega) λw' hp2 a' ha=>?_
        exact hk _ h8 M a' w' hM ha (Hp.perm hp2 (((aW e1).2 _).symm.append_right _)) hF
      · cases i4
    · cases i1
  · exact h.elim}
def pB (j k r q kq:Nat) (e:TypeId) (kd:IntKind) {d:List CD} {it:Int} {x0:CD} (hx:aq d it=some x0) (x:CD):D P n:=.im {
 ck:=λs kt=>match kget j s.E,kget k s.F,kget r s.E,kget q s.F with
  |some (.obj b (.cells cs T fr)),some (.ln hs l m),some (.row e1 sz v m1 cs1),some φ=>.eq e1 e (.eq sz 1 (.eq m1 x.length (.eqF [φ] [.seq 1 (Dat.int kd) x cs1] (.eq l d.length (.eq s.B (rbag e kd (d.eraseIdx it.toNat) (hs.eraseIdx it.toNat))
   (kt {s with E:=kdel r s.E,F:=(kq,.ln (hs.set it.toNat v) (d.set it.toNat x).length m)::s.F,B:=rbag e kd (d.set it.toNat x) (hs.set it.toNat v)}))))))
  |_,_,_,_=>.no
 ok:=λc s kt G h hk=>by
  split at h
  · rename_i b cs T fr hs l m e1 sz v m1 cs1 φ q1 q2 q3 q4
    obtain⟨rfl,rfl,rfl,h4,rfl,hB,h6⟩:=h
    intro M a w hM hf hp hF
    obtain⟨g1,g2⟩:=hF.kget q2
    have g3: (Fa.seq 1 (Dat.int kd) x cs1).at M:=(List.cons.inj h4).1▸hF.kget q4
    rw[hB] at hp
    have hp':=hp.perm ((aW q3).1.append_right _)
    have hj:it.toNat<d.length:=rr_ltD hx
    exact hk _ h6 M a w hM hf (Hp.rbagPut (vals (kdel r s.E)) hp' g3.1 g1 hj) (.cons ⟨by simpa using g1,by simpa using g2⟩ hF)
  · exact h.elim}
def bR (j k r h q kq:Nat) (e:TypeId) (kd:IntKind) {d:List CD} {it:Int} {x0 x:CD} (hx:aq d it=some x0) (hl:x0.length=x.length):D P n:=.im {
 ck:=λs kt=>match kget k s.F,kget r s.E,kget h s.F,kget q s.F with
  |some (.ln hs l m),some (.row e1 sz (.slice A m1 c) m2 cs1),some (.hd hs' i v),some φ=>.eq e1 e (.eq sz 1 (.eq m1 x.length (.eq m2 x.length (.eqF [φ] [.seq 1 (Dat.int kd) x cs1] (.eq hs' hs (.eq i it.toNat (.eq v (.slice A x0.length c) (.eq l d.length (.eq s.B (rbag e kd (d.eraseIdx it.toNat) (hs.eraseIdx it.toNat))
   (kt {s with E:=kdel r s.E,F:=(kq,.ln hs (d.set it.toNat x).length m)::s.F,B:=rbag e kd (d.set it.toNat x) hs}))))))))))
  |_,_,_,_=>.no
 ok:=λc s kt G h hk=>by
  split at h
  · rename_i hs l m e1 sz A m1 cc m2 cs1 hs' i v φ q2 q3 q5 q4
    obtain⟨rfl,rfl,rfl,rfl,h4,rfl,rfl,rfl,rfl,hB,h6⟩:=h
    intro M a w hM hf hp hF
    obtain⟨g1,g2⟩:=hF.kget q2
    have g3: (Fa.seq 1 (Dat.int kd) x cs1).at M:=(List.cons.inj h4).1▸hF.kget q4
    have g4:=hF.kget q5
    rw[hB] at hp
    have hp':=hp.perm ((aW q3).1.append_right _)
    rw[hl] at g4
    exact hk _ h6 M a w hM hf (Hp.rbagBack (vals (kdel r s.E)) hp' g3.1 g1 hx g4) (.cons ⟨by simpa using g1,by simpa using g2⟩ hF)
  · exact h.elim}
def kR (j k i:Nat) (e:TypeId) (kd:IntKind) (d:List CD) (ss:List Nat):D P n:=.im {
 ck:=λs kt=>match kget j s.E,kget k s.F with
  |some (.obj b (.cells cs T fr)),some (.ln hs l m)=>.eq fr (0,0) (.eq cs.toList hs (.eq l d.length (.eq s.B (rbag e kd d hs) (rspT (.slice (some ⟨b,0,none⟩) m m) s.L ss
   (kt {s with L:=rspL ss (.slice (some ⟨b,0,none⟩) d.length m) s.L,E:=kdel j s.E,F:=(i,.sli 1 (eL 1 (Dat.int kd)) (some ⟨b,0,none⟩) m d)::s.F,B:=[]})))))
  |_,_=>.no
 ok:=λc s kt G h hk=>by
  split at h
  · rename_i b cs T fr hs l m q1 q2
    obtain⟨rfl,h2,rfl,hB,h5⟩:=h
    intro M a w hM hf hp hF
    obtain⟨g1,g2⟩:=hF.kget q2
    obtain⟨k1,k2⟩:=rsp_L (v':=.slice (some ⟨b,0,none⟩) d.length m) (by rw[g2]) h5 hf
    rw[hB] at hp
    have hp':=hp.perm ((aW q1).1.append_right _)
    have e0:cs=hs.toArray:=by rw[←h2,Array.toArray_toList]
    rw[e0] at hp'
    obtain⟨M',l1,l2,l3⟩:=Hp.rrKnown (vals (kdel j s.E)) hp' ⟨g1,g2⟩
    exact hk _ k2 M' a w (hM.trans l1) k1 l2 (.cons l3 (hF.mo l1))
  · exact h.elim}
def T3 (j k0 k:Nat) {α:Type} (Y:Ty α) {xs:List α} {b:Int} (h:0≤b∧b≤xs.length):D P n:=.l {
 ck:=λops s o kt _=>match kget j s.E,kget k0 s.F with
  |some (.row e sz (.slice A m1 c) m cs),some φ=>.ok (okO ops n s.L o) (.eq o.op (.slice (slT o) (slX o) none (some (slB o)) (some (slC o))) (.eq m1 xs.length (.eq m xs.length (.eq sz Y.sz (.eqF [φ] [.seq Y.sz Y.f xs cs] (.eq (Vc.ev s.L (slX o)) (.slice A xs.length c) (.eq (Vc.ev s.L (slB o)) (.int (kindV (Vc.ev s.L (slB o))) b) (.eq (Vc.ev s.L (slC o)) (.int (kindV (Vc.ev s.L (slC o))) b) (.eq (P.underlying (slT o)) (some (.slice (argE P (slT o)))) (.ok (szIs P (argE P (slT o)) Y.sz)
   (.all λz:Z=>kt {s with L:=(dstO o,.slice z.A (xs.take b.toNat).length z.c)::s.L,E:=kput j (.row e Y.sz (.slice z.A (xs.take b.toNat).length z.c) (xs.take b.toNat).length z.k) s.E,F:=(k,.seq Y.sz Y.f (xs.take b.toNat) z.k)::s.F})))))))))))
  |_,_=>.no
 ok:=λc0 ops Q s o rest kt kx hh hk _=>by
  split at hh
  · rename_i e sz A m1 c m cs φ e1 e2
    obtain⟨h1,h2,rfl,rfl,rfl,h6,h7,h8,h8',h9,h10,h11⟩:=hh
    intro M a0 w hM hf hp hF
    have g1: (Fa.seq Y.sz Y.f xs cs).at M:=(List.cons.inj h6).1▸hF.kget e2
    have hp':=hp.perm ((aW e1).1.append_right _)
    obtain⟨A',c',k1,k2,_⟩:=Hp.rowShape hp' 0 rfl
    obtain⟨rfl,_,rfl⟩:=Value.slice.inj k1
    have hl: (xs.take b.toNat).length=b.toNat:=by rw[List.length_take];omega
    have hx:=X_slice3 (w:=w) h2 h7 h8 h8' h9 h10 h.1 (by omega)
    have hp2:=hp'.rowFull (m:=b.toNat) rfl (by omega)
    rw[←hl] at hp2
    refine ku (v:=.slice (cutA A Y.sz 0 (xs.take b.toNat).length) (xs.take b.toNat).length (xs.take b.toNat).length) hf h1 (by rw[hl];exact hx) λa' hf'=>?_
    refine hk _ (h11 {A:=cutA A Y.sz 0 (xs.take b.toNat).length,c:=(xs.take b.toNat).length,k:=cs.take ((xs.take b.toNat).length*Y.sz)}) M a' w hM hf' (hp2.perm (((aW e1).2 _).symm.append_right _)) (.cons ⟨?_,Y.szd⟩ hF)
    show au M ((xs.take b.toNat).map Y.f) _
    rw[hl,List.map_take]
    exact au.takeD b.toNat (λd hd=>by obtain⟨x,_,rfl⟩:=List.mem_map.1 hd;exact Y.szd x) g1.1
  · exact hh.elim}
variable {P:Program} {n:Nat} {ρ:Type}
section
variable {σ β α:Type} {l:Nat} {J:σ→Mem→List Ent→Prop} {Jx:β→Mem→List Ent→Prop} {Y:σ→α→Option (Lp σ β)}
def yl (V:Iv α) (hJ:Grows J) (hJx:Grows Jx) (hY:Yld P l V.vals J Jx Y) (id m:Nat) (pre:List (D P n)) (js:Nat) (is:List Nat) {s0:σ} {x:α} {kk:Lp σ β→Option ρ} (A: ∀s,W P n (kk (.nx s))) (A': ∀b,W P n (kk (.br b))):W P n ((Y s0 x).bind kk) where
 ck rd fin f s:=go P n rd (.reg id) (λf s=>match f with
  |.code (.region _ ops false) ls=>.ok (!rd&&noDefer ops.toList) (go P n rd .no (λf1 s1=>match f1,ops.toList.drop m,kget js s1.F with
   |.ex .normal [],o::rest,some (.js E φ)=>.ok (okO ops n s1.L o) (.ok (noDefer [o]) (.eq s1.B E (.eq φ (J s0) (.eqF (kall is s1.F) (V.F x (zsOf s1 is [])) (.and (.all λw=>.eq ((execOp (ev s1.L) o).run P w) ((Instr.yield l #[V.v x,V.u x (zsOf s1 is [])]).run P w) .done)
    (.all λE':List Ent=>.and (.all λs'=>go P n rd .no (λf2 s2=>match f2 with
     |.ex .normal []=>(A s').ck rd fin (.ex .normal ls) s2
     |_=>.no) 4000 [] (.ops ops rest []) {s1 with L:=(dstO o,.bool true)::s1.L,B:=E',F:=(js,.js E' (J s'))::s1.F})
     (.all λb=>go P n rd .no (λf2 s2=>match f2 with
      |.ex .normal []=>(A' b).ck rd fin (.ex .normal ls) s2
      |_=>.no) 4000 [] (.ops ops rest []) {s1 with L:=(dstO o,.bool false)::s1.L,B:=E',F:=(js,.js E' (Jx b))::s1.F})))))))
   |_,_,_=>.no) 4000 pre (.ops ops (ops.toList.take m) []) s)
  |_=>.no) 4000 [] f s
 ok cn fin r er f s h hk:=by
  obtain⟨w0,M0,Hc,B,ro,lo⟩:=cn
  refine mB (λf s h=>?_) _ _ _ _ h
  split at h
  · rename_i id' ops ls
    obtain⟨h0,h1⟩:=h
    simp only[Bool.and_eq_true] at h0
    obtain⟨h01,h02⟩:=h0
    cases ro with
    |some _=>cases h01
    |none=>
    obtain⟨r1,hy1,hr⟩:=Option.bind_eq_some_iff.1 er
    have hnd: ∀ {l:List Oper},(∀x∈l,x∈ops.toList)→noDefer l=true:=λ {l} hl=>List.all_eq_true.2 λx hx=>List.all_eq_true.1 h02 x (hl x hx)
    intro M a w hM hf hp hF
    refine wpIn_region_list (WI_pre m (hnd λx hx=>List.mem_of_mem_take hx) ?_)
    refine mB (P:=P) (n:=n) (c:=⟨w0,M,Hc,λe a w=>e=.normal∧wpListIn (fen none) 0 P ops (den none P B ls) (ops.toList.drop m) a w,none,nolo⟩) (λf1 s1 g=>?_) _ _ _ _ h1 M a w (Mem.le_refl M) hf hp hF
    split at g
    · rename_i o rest E φ e1 e2
      obtain⟨g1,g2,g3,rfl,g5,g6,g7⟩:=g
      obtain⟨i1,i2,i3,i4⟩:=kC g1
      intro M1 a1 w1 k1 k2 k3 k4
      refine⟨rfl,?_⟩
      rw[e1]
      rw[g3] at k3
      have hj:J s0 M1 E:=(k4.kget e2) M1 (Mem.le_refl M1)
      have hp1:Hp w0 M1 (E++(vals s1.E++Hc)) w1:=k3.perm (by rw[←List.append_assoc,←List.append_assoc];exact List.perm_append_comm.append_right _)
      obtain⟨fn,tmps,asg,bd,hrun,hR⟩:=hY s0 x r1 hy1 w0 M1 E _ w1 _ hj (V.shut (g5▸k4.kall is)) hp1
      have hrest:noDefer rest=true:=hnd λx hx=>by
       have:x∈ops.toList.drop m:=by rw[e1];exact List.mem_cons_of_mem _ hx
       exact List.mem_of_mem_drop this
      refine WI_round k2 i1 i2 i3 i4 (td g2 (by simp)) (((g6 w1).1).trans hrun) hR λe w' ⟨M2,E2,hM2,hp2,hr2⟩=>?_
      have hp3:Hp w0 M2 (vals s1.E++(E2++Hc)) w':=hp2.perm (by rw[←List.append_assoc,←List.append_assoc];exact List.perm_append_comm.append_right _)
      have fin2: ∀ (v:Bool) (φ:Mem→List Ent→Prop) (Wk:W P n (kk r1)),φ M2 E2→(∀M',M2.le M'→φ M' E2)→(go P n false .no (λf2 s2=>match f2 with
       |.ex .normal []=>Wk.ck false fin (.ex .normal ls) s2
       |_=>.no) 4000 [] (.ops ops rest []) {s1 with L:=(dstO o,.bool v)::s1.L,B:=E2,F:=(js,.js E2 φ)::s1.F}).holds→∀a',Frm n ((dstO o,.bool v)::s1.L) a' s1.D→wpListIn (fen none) 0 P ops (den none P B ls) rest a' w':=λv φ Wk hφ hg q a' hf'=>by
       have:=og (ro:=none) (P:=P) (ops:=ops) (Q:=den none P B ls) [] rest hrest a' w' (mB (P:=P) (n:=n) (c:=⟨w0,M2,Hc,λe a w=>e=.normal∧wpListIn (fen none) 0 P ops (den none P B ls) [] a w,none,nolo⟩) (λf2 s2 q=>by
        split at q
        · intro M3 a3 w3 j1 j2 j3 j4
          exact⟨rfl,Wk.ok ⟨w0,M0,Hc,B,none,lo⟩ fin r hr _ _ q hk M3 a3 w3 (((hM.trans k1).trans hM2).trans j1) j2 j3 j4⟩
        · exact q.elim) _ _ _ _ q M2 a' w' (Mem.le_refl M2) hf' hp3 (.cons hg (k4.mo hM2)))
       rwa [List.append_nil] at this
      cases r1 with
      |nx s'=>
       obtain⟨rfl,hj2⟩:=hr2
       exact⟨_,rfl,fin2 true (J s') (A s') hj2 (λM' h=>hJ _ _ _ _ h hj2) ((g7 E2).1 s')⟩
      |br b=>
       obtain⟨rfl,hj2⟩:=hr2
       exact⟨_,rfl,fin2 false (Jx b) (A' b) hj2 (λM' h=>hJx _ _ _ _ h hj2) ((g7 E2).2 b)⟩
    · exact g.elim
  · exact h.elim
def JE (J:σ→Mem→List Ent→Prop) (Jx:β→Mem→List Ent→Prop) (r:Lp σ β) (M:Mem) (E:List Ent):Prop:=match r with|.nx s=>J s M E|.br b=>Jx b M E
def finY0 (fn:Func) (J:σ→Mem→List Ent→Prop) (Jx:β→Mem→List Ent→Prop) (r:Lp σ β) (o:Out) (s:St):T:=.eq s.D [] (.eq fn.results #[] (match kget (o.is.headD 0) s.F with|some (.js E φ)=>.eq s.B E (.eq φ (match r with|.nx s=>J s|.br b=>Jx b) .done)|_=>.no))
def finY (P:Program) (fn:Func) (J:σ→Mem→List Ent→Prop) (Jx:β→Mem→List Ent→Prop) (r:Lp σ β) (o:Out) (f:Foc) (s:St):T:=match f with|.ex .ret []|.ex .normal []=>finY0 fn J Jx r o s|_=>.no
theorem fnY {f:FuncId} {fn:Func} {c:Code} {caps:Lv} {xs:List α} {F:List Fa} (V:Iv α) (n:Nat) (hf:P.funcs[f]? =some fn) {R: ∀ {σ β:Type},(σ→α→Option (Lp σ β))→σ→Option (Lp σ β)} (hR: ∀ {σ β:Type} {Y:σ→α→Option (Lp σ β)} {s0 r},iN Y xs s0=some r→R Y s0=some r)
 (W0: ∀ {σ β:Type} {Y:σ→α→Option (Lp σ β)} {l:Nat} {J:σ→Mem→List Ent→Prop} {Jx:β→Mem→List Ent→Prop} (hJ:Grows J) (hJx:Grows Jx) (hY:Yld P l V.vals J Jx Y) (s0:σ),W P n (R Y s0))
 (he: ∀args w,(callFunc f args).run P w=.ok (.enter f args) w) (hb:fn.body=some c:=by rfl) (hn:fn.ntmps=n:=by rfl) (hl:caps.length+1≤n:=by simp)
 (h: ∀ {σ β:Type} {Y:σ→α→Option (Lp σ β)} {l:Nat} {J:σ→Mem→List Ent→Prop} {Jx:β→Mem→List Ent→Prop} (hJ:Grows J) (hJx:Grows Jx) (hY:Yld P l V.vals J Jx Y) (s0:σ) (E:List Ent),
  (W0 hJ hJx hY s0).ck false (finY P fn J Jx) (.code c []) {L:=frame0 (.func (.yield l) #[] #[]::caps) 0,F:=nums 0 (.js E (J s0)::F),B:=E}=((W0 hJ hJx hY s0).ck false (finY P fn J Jx) (.code c []) {L:=frame0 (.func (.yield l) #[] #[]::caps) 0,F:=nums 0 (.js E (J s0)::F),B:=E}).diag:=by intros;kernel_rfl)
 {M:Mem} (hF:Fh M F):IterOk P f caps V.vals xs M:=by
 refine⟨he,λσ β Y s0 r hr l J Jx hJ hJx hY w0 M1 E H w hM hj hp=>?_⟩
 refine jK n hf hb hn (by simpa using hl) λa ha=>?_
 refine RI_out ?_
 refine(W0 hJ hJx hY s0).ok ⟨w0,M1,H,bodyPost P fn λe w'=>∃v,e=.returned v∧∃M' E',M1.le M'∧Hp w0 M' (E'++H) w'∧JE J Jx r M' E',none,nolo⟩ (finY P fn J Jx) r (hR hr) _ _ (T.chk (h hJ hJx hY s0 E)) ?_ M1 a w (Mem.le_refl _) ha hp ?_
 ·intro o f' s' h'
  have key: ∀M a w,M1.le M→Frm n s'.L a s'.D→Hp w0 M (vals s'.E++(s'.B++H)) w→Fh M (vals s'.F)→(finY0 fn J Jx r o s').holds→a.defers=[]∧∃v,(results fn a.tmps).run P w=.ok v w∧∃v',Ending.returned v=.returned v'∧∃M' E',M1.le M'∧Hp w0 M' (E'++H) w∧JE J Jx r M' E':=λM a w g1 g2 g3 g4 hq=>by
   obtain⟨q1,q2,q3⟩:=hq
   rw[q1] at g2
   split at q3
   ·rename_i E' φ e
    obtain⟨q4,q5,_⟩:=q3
    have hφ:=g4.kget e M (Mem.le_refl M)
    rw[q4] at g3
    refine⟨g2.defers,_,results_none q2 _ P w,_,rfl,M,E',g1,g3.sub (List.sublist_append_right _ _),?_⟩
    rw[q5] at hφ
    cases r<;>exact hφ
   exact q3.elim
  unfold finY at h'
  split at h'
  ·exact λM a w g1 g2 g3 g4=>key M a w g1 g2 g3 g4 h'
  ·exact λM a w g1 g2 g3 g4=>key M a w g1 g2 g3 g4 h'
  exact h'.elim
 show Fh M1 (vals (nums 0 (Fa.js E (J s0)::F)))
 rw[gb]
 exact .cons (λM' h=>hJ _ _ _ _ h hj) (hF.mo hM)
end
def mk {α:Type} {vals:Mem→α→Lv→Prop} {xs:List α} {F:Zs→List Fa} {f:FuncId} {caps:Zs→Lv} (hit: ∀z M,Fh M (F z)→IterOk P f (caps z) vals xs M) (k:Nat) (is:List Nat):D P n:=.im {
 ck:=λs kt=>.eqF (kall is s.F) (F (zsOf s is [])) (kt (s.fact k (.pm (IterOk P f (caps (zsOf s is [])) vals xs))))
 ok:=λc s kt G h hk=>by
  obtain⟨h1,h2⟩:=h
  intro M a w hM hf hp hF
  exact hk _ h2 M a w hM hf hp (.cons (λM' h=>(hit _ M (h1▸hF.kall is)).mono h) hF)}
end Go.Ck
end
section
namespace Go.Proofs.YtkmbfmdhoeibhaaGreat
open Go Go.Vc Go.RowKit Go.Ck
def aO:Ty bz:=tT [⟨tI .i8,(·.aA)⟩,⟨tB,(·.so)⟩,⟨tI .i64,(·.dV)⟩,⟨tS,(·.be)⟩,⟨tL 6 aw,(·.bu)⟩,⟨tL 1 Dat.str,(·.bU)⟩] aw bP
def bg:Ty bZ:=tT [⟨tI .i8,(·.aA)⟩,⟨tS,(·.be)⟩,⟨tI .i64,(·.dV)⟩,⟨tS,(·.aE)⟩,⟨tS,(·.dQ)⟩,⟨tL 6 aN,(·.fL)⟩] aN bK
def iw:Ty wO:=tT [⟨tS,(·.aE)⟩,⟨tB,(·.kv)⟩,⟨tB,(·.Cm)⟩,⟨aO,(·.cQ)⟩,⟨tL 6 aw,(·.cz)⟩] gI jT
def bJ:Ty cy:=tT [⟨tS,(·.aE)⟩,⟨tI .i8,(·.aA)⟩,⟨bg,(·.fA)⟩,⟨bg,(·.fB)⟩,⟨tL 15 bb,(·.fL)⟩] bb iK
def qu:Ty TN0:=tT [⟨tS,(·.aE)⟩,⟨bg,(·.fE)⟩] dJ iM
def ir:Ty TF0:=tT [⟨tS,(·.aE)⟩,⟨tS,(·.ef)⟩,⟨bg,(·.fE)⟩] jf jS
def gT:Ty wl:=tT [⟨tS,(·.ci)⟩,⟨tS,(·.bB)⟩,⟨tS,(·.ef)⟩,⟨tL 7 dJ,(·.bk)⟩,⟨tL 1 Dat.str,(·.cR)⟩,⟨tB,(·.bV)⟩,⟨tL 4 ba,(·.cO)⟩] cg gu
def bq:Ty cI:=tT [⟨tL 10 gI,(·.bQ)⟩,⟨tL 15 bb,(·.dL)⟩,⟨tL 7 cg,(·.eR)⟩,⟨tL 8 jf,(·.bM)⟩] ba gr
def bc:Ty aG:=tT [⟨tS,(·.aE)⟩,⟨tB,(·.dw)⟩,⟨aO,(·.fV)⟩] aj du
def bN:Ty gK:=tT [⟨tS,(·.ci)⟩,⟨tS,(·.bB)⟩,⟨tS,(·.bm)⟩,⟨tL 8 aj,(·.bk)⟩,⟨tB,(·.bV)⟩,⟨tL 1 Dat.str,(·.bA)⟩] aK eD
def ez:Ty gH:=tT [⟨tL 6 aK,(·.aR)⟩,⟨tL 6 aK,(·.cJ)⟩,⟨tL 6 aK,(·.cM)⟩,⟨tL 8 aj,(·.bM)⟩,⟨tS,(·.be)⟩,⟨tL 8 aj,(·.bG)⟩,⟨tI .i64,(·.oY)⟩,⟨tI .i8,(·.cm)⟩] gd lC
def iu:Ty cb:=tT [⟨tI .i64,(·.gf)⟩,⟨tS,(·.cY)⟩,⟨bq,(·.fT)⟩,⟨tL 7 dJ,(·.bG)⟩] aT sU
def uu:Ty ng:=tT [⟨tI .i64,(·.cK)⟩,⟨tS,(·.aE)⟩] dv xA
def iy:Ty cj:=tT [⟨tS,(·.ci)⟩,⟨tI .i64,(·.cK)⟩,⟨gT,(·.fR)⟩,⟨tL 2 dv,(·.iD)⟩,⟨tL 1 Dat.str,(·.ju)⟩] aS sZ
def dt:Ty ey:=tT [⟨tL 7 aT,(·.aV)⟩,⟨tL 11 aS,(·.aU)⟩] oc xC
def dk:Ty cV:=tT [⟨tS,(·.ci)⟩,⟨tI .i8,(·.aA)⟩,⟨tS,(·.bB)⟩,⟨tL 8 aj,(·.bk)⟩,⟨tB,(·.bV)⟩,⟨tI .i64,(·.sq)⟩,⟨tB,(·.bI)⟩,⟨tL 1 Dat.str,(·.bA)⟩] bi xz
def uY:Ty Ba:=tT [⟨tI .i64,(·.gX)⟩,⟨tI .i8,(·.aA)⟩,⟨tS,(·.bm)⟩,⟨tS,(·.bB)⟩,⟨tL 8 aj,(·.bk)⟩] oe sY
def cx:Ty dq:=tT [⟨tI .i64,(·.aX)⟩,⟨tI .i8,(·.aJ)⟩,⟨uY,(·.cP)⟩,⟨tI .i8,(·.bW)⟩,⟨tS,(·.bm)⟩] bF xB
def bn:Ty bH:=tT [⟨tI .i8,(·.aA)⟩,⟨tI .i64,(·.co)⟩,⟨ez,(·.bI)⟩,⟨dt,(·.ig)⟩,⟨tS,(·.be)⟩,⟨tL 8 aj,(·.bG)⟩,⟨tL 8 bi,(·.am)⟩,⟨tL 9 bF,(·.an)⟩,⟨tI .i8,(·.aJ)⟩,⟨tI .i8,(·.cm)⟩] xU Bo
def Y_TE0:Ty TE0:=tT [⟨tB,(·.Ci)⟩,⟨tB,(·.Co)⟩,⟨tS,(·.bm)⟩] xT Bm
def wP:Ty uW:=tT [⟨tS,(·.aE)⟩,⟨tI .i8,(·.aA)⟩,⟨tB,(·.xV)⟩] sV Bn
def af:Ty ab:=tT [⟨tB,(·.unknown)⟩,⟨tB,(·.list)⟩,⟨aO,(·.v)⟩,⟨tI .i64,(·.most)⟩] ai ie
def bC:Ty aa:=tT [⟨tB,(·.out)⟩,⟨tI .i64,(·.scope)⟩,⟨tS,(·.name)⟩] ae iA
def bD:Ty ac:=tT [⟨tB,(·.out)⟩,⟨tI .i64,(·.scope)⟩,⟨tS,(·.name)⟩] ak iC
def Y_TA0:Ty TA0:=tT [⟨tB,(·.Cj)⟩,⟨tI .i64,(·.fK)⟩,⟨tB,(·.Bp)⟩] lV oX
end Go.Proofs.YtkmbfmdhoeibhaaGreat
end
