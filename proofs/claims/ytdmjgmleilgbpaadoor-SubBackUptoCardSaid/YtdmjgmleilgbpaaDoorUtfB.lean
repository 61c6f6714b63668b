/-
  strings.Builder's writing, plain. Own work.
-/
import Derived.Test.YtdmjgmleilgbpaaDoorQ3
import Derived.Test.YtdmjgmleilgbpaaDoorVu
namespace Go.Proofs.YtdmjgmleilgbpaaDoor
open Go Go.Vc

theorem wrS {n : Nat} {a b : List UInt8} (h : a.length + b.length ≤ 100000000000) : strings_Builder_WriteString n a b = some ((b.length : Int), (), a ++ b) := by
  unfold strings_Builder_WriteString strings_Builder_copyCheck_3 strings_Builder_copyCheck
  rw [bnd, need_t (by omega)]
theorem wrB {n : Nat} {a : List UInt8} (c : UInt8) (h : a.length ≤ 100000000000) : strings_Builder_WriteByte n a (c.toNat : Int) = some ((), a ++ [c]) := by
  unfold strings_Builder_WriteByte strings_Builder_copyCheck_3 strings_Builder_copyCheck
  have hc := c.toNat_lt
  rw [bnd, need_t (by omega), need_t (by omega)]
  congr 3
  simp

theorem tabB : ((List.range 256).all fun y => bAnd .u8 (y : Int) 63 == ((y % 64 : Nat) : Int)) = true := by kernel_rfl
theorem tabC : ((List.range 64).all fun y => bOr .u8 128 (y : Int) == ((128 + y : Nat) : Int)) = true := by kernel_rfl
theorem tabD : ((List.range 32).all fun y => bOr .u8 192 (y : Int) == ((192 + y : Nat) : Int)) = true := by kernel_rfl
theorem tabE : ((List.range 16).all fun y => bOr .u8 224 (y : Int) == ((224 + y : Nat) : Int)) = true := by kernel_rfl
theorem tabF : ((List.range 8).all fun y => bOr .u8 240 (y : Int) == ((240 + y : Nat) : Int)) = true := by kernel_rfl
theorem shr_i32 (c k : Nat) (hk : k ≤ 32) : bShr .i32 (c : Int) (k : Int) = ((c / 2 ^ k : Nat) : Int) := by
  unfold bShr
  have : min ((k : Int).toNat) IntKind.i32.bits = k := by
    show min _ 32 = k
    omega
  rw [this, Int.fdiv_eq_ediv_of_nonneg _ (Int.pow_nonneg (by omega))]
  norm_cast
theorem wrap_u8 (c : Nat) : IntKind.wrap .u8 (c : Int) = ((c % 256 : Nat) : Int) := by
  simp [IntKind.wrap, IntKind.bits, IntKind.signed]
theorem lowB (c : Nat) : bOr .u8 128 (bAnd .u8 (IntKind.wrap .u8 (c : Int)) 63) = ((128 + c % 64 : Nat) : Int) := by
  rw [wrap_u8]
  have h := List.all_eq_true.1 tabB (c % 256) (List.mem_range.2 (by omega))
  rw [eq_of_beq h]
  have h := List.all_eq_true.1 tabC (c % 256 % 64) (List.mem_range.2 (by omega))
  rw [eq_of_beq h]
  omega
theorem hdD (c : Nat) (h : c < 32) : bOr .u8 192 (IntKind.wrap .u8 (c : Int)) = ((192 + c : Nat) : Int) := by
  rw [wrap_u8, show c % 256 = c by omega]
  exact eq_of_beq (List.all_eq_true.1 tabD c (List.mem_range.2 h))
theorem hdE (c : Nat) (h : c < 16) : bOr .u8 224 (IntKind.wrap .u8 (c : Int)) = ((224 + c : Nat) : Int) := by
  rw [wrap_u8, show c % 256 = c by omega]
  exact eq_of_beq (List.all_eq_true.1 tabE c (List.mem_range.2 h))
theorem hdF (c : Nat) (h : c < 8) : bOr .u8 240 (IntKind.wrap .u8 (c : Int)) = ((240 + c : Nat) : Int) := by
  rw [wrap_u8, show c % 256 = c by omega]
  exact eq_of_beq (List.all_eq_true.1 tabF c (List.mem_range.2 h))

theorem byt2 (x y z w : Int) (h1 : x = z) (h2 : y = w) : [UInt8.ofNat x.toNat, UInt8.ofNat y.toNat] = List.map (fun x : Int => x.toNat.toUInt8) [z, w] := by subst h1 h2; rfl
theorem byt3 (x y u z w v : Int) (h1 : x = z) (h2 : y = w) (h3 : u = v) : [UInt8.ofNat x.toNat, UInt8.ofNat y.toNat, UInt8.ofNat u.toNat] = List.map (fun x : Int => x.toNat.toUInt8) [z, w, v] := by subst h1 h2 h3; rfl
theorem byt4 (x y u p z w v q : Int) (h1 : x = z) (h2 : y = w) (h3 : u = v) (h4 : p = q) : [UInt8.ofNat x.toNat, UInt8.ofNat y.toNat, UInt8.ofNat u.toNat, UInt8.ofNat p.toNat] = List.map (fun x : Int => x.toNat.toUInt8) [z, w, v, q] := by subst h1 h2 h3 h4; rfl
theorem appR {n : Nat} {a : List UInt8} {c : Nat} (hc : c ≤ 1114111) (h : a.length ≤ 100000000000) : unicode_utf8_AppendRune n a (c : Int) = some (a ++ Lib.encodeRune (c : Int)) := by
  unfold unicode_utf8_AppendRune
  rw [need_t (by simp [inR, IntKind.min, IntKind.max, IntKind.signed, IntKind.bits]; omega)]
  unfold Lib.encodeRune
  by_cases h1 : c ≤ 127
  · rw [decide_eq_true (by omega : (c : Int) ≤ 127), cT, wrap_u8, show c % 256 = c by omega, need_t (by omega), need_t (by omega), Lib.encodeRuneZ_one (by omega) (by omega)]
    simp
  rw [decide_eq_false (by omega : ¬ (c : Int) ≤ 127), cF]
  unfold unicode_utf8_appendRuneNonASCII
  rw [need_t (by simp [inR, IntKind.min, IntKind.max, IntKind.signed, IntKind.bits]; omega)]
  have s6 : bShr .i32 (c : Int) 6 = ((c / 64 : Nat) : Int) := shr_i32 c 6 (by omega)
  have s12 : bShr .i32 (c : Int) 12 = ((c / 4096 : Nat) : Int) := shr_i32 c 12 (by omega)
  have s18 : bShr .i32 (c : Int) 18 = ((c / 262144 : Nat) : Int) := shr_i32 c 18 (by omega)
  rw [s6, s12, s18, lowB c, lowB (c / 64), lowB (c / 4096)]
  by_cases h2 : c ≤ 2047
  · rw [decide_eq_true (by omega : (c : Int) ≤ 2047), cT, hdD _ (by omega), need_t (by omega), need_t (by omega), need_t (by omega), bnd, Lib.encodeRuneZ_two (by omega) (by omega)]
    exact congrArg some (congrArg (a ++ ·) (byt2 _ _ _ _ (by omega) (by omega)))
  rw [decide_eq_false (by omega : ¬ (c : Int) ≤ 2047), cF]
  have e3 : 224 + c / 4096 < 240 → some (a ++ [UInt8.ofNat ((((224 + c / 4096 : Nat) : Int)).toNat), UInt8.ofNat ((((128 + c / 64 % 64 : Nat) : Int)).toNat), UInt8.ofNat ((((128 + c % 64 : Nat) : Int)).toNat)]) = some (a ++ List.map (fun x => x.toNat.toUInt8) [224 + (c : Int) / 4096, 128 + (c : Int) / 64 % 64, 128 + (c : Int) % 64]) := fun _ => by
    exact congrArg some (congrArg (a ++ ·) (byt3 _ _ _ _ _ _ (by omega) (by omega) (by omega)))
  by_cases h3 : c < 55296
  · rw [decide_eq_true (by omega : (c : Int) < 55296), cT, bnd, cT, hdE _ (by omega), need_t (by omega), need_t (by omega), need_t (by omega), need_t (by omega), bnd, Lib.encodeRuneZ_three (by omega)]
    exact e3 (by omega)
  rw [decide_eq_false (by omega : ¬ (c : Int) < 55296), cF]
  by_cases h4 : 57343 < c
  · rw [decide_eq_true (by omega : (57343 : Int) < c), cT, bnd]
    by_cases h5 : c ≤ 65535
    · rw [decide_eq_true (by omega : (c : Int) ≤ 65535), cT, hdE _ (by omega), need_t (by omega), need_t (by omega), need_t (by omega), need_t (by omega), bnd, Lib.encodeRuneZ_three (by omega)]
      exact e3 (by omega)
    · rw [decide_eq_false (by omega : ¬ (c : Int) ≤ 65535), cF, decide_eq_true (by omega : (65535 : Int) < c), cT, decide_eq_true (by omega : (c : Int) ≤ 1114111), bnd, cT, hdF _ (by omega), need_t (by omega), need_t (by omega), need_t (by omega), need_t (by omega), need_t (by omega), bnd, Lib.encodeRuneZ_four (by omega) (by omega)]
      exact congrArg some (congrArg (a ++ ·) (byt4 _ _ _ _ _ _ _ _ (by omega) (by omega) (by omega) (by omega)))
  · rw [decide_eq_false (by omega : ¬ (57343 : Int) < c), cF, bnd, cF, decide_eq_false (by omega : ¬ (65535 : Int) < c), cF, bnd, cF, need_t (by omega), bnd]
    have : Lib.encodeRuneZ (c : Int) = [239, 191, 189] := by
      unfold Lib.encodeRuneZ
      rw [if_neg (by omega), if_neg (by omega), if_neg (by omega), if_neg (by omega)]
    rw [this]
    rfl
theorem wrR {n : Nat} {a : List UInt8} {c : Nat} (hc : c ≤ 1114111) (h : a.length ≤ 100000000000) : strings_Builder_WriteRune n a (c : Int) = some (((Lib.encodeRune (c : Int)).length : Int), (), a ++ Lib.encodeRune (c : Int)) := by
  unfold strings_Builder_WriteRune strings_Builder_copyCheck_3 strings_Builder_copyCheck
  have hl : (Lib.encodeRune (c : Int)).length ≤ 4 := by
    unfold Lib.encodeRune Lib.encodeRuneZ
    repeat' split
    all_goals simp
  rw [bnd, appR hc h, bnd, List.length_append, need_i (by omega) (by omega)]
  congr 2
  omega
end Go.Proofs.YtdmjgmleilgbpaaDoor
