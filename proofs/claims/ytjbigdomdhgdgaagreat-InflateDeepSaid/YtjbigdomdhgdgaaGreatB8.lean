/-
  PROVED: doorkeeperlaw20.InflateDeep returns true whatever its two numbers (uint16), does not panic, and its arguments read behind the call as they read before. Conditions: none.
-/
import Derived.Test.YtjbigdomdhgdgaaGreatB7
import Derived.Test.YtjbigdomdhgdgaaGreatB6
import Derived.Test.YtjbigdomdhgdgaaGreatRows
import Derived.WalkKit
import Derived.ProofKit
import Derived.OpenShut
set_option linter.unusedSimpArgs false
set_option linter.unusedVariables false
set_option linter.unusedSectionVars false
namespace Go.Sx
open Go Go.Proofs
theorem yE {j n : Nat} {u : Nat → Nat} {arr : Nat → Nat → Nat → Nat} (h : u j = n) (hn : n < 1000000) : (y j).evv u arr = n := by unfold y SE.evv; rw [h]; exact smallM hn
theorem fEf {x z : SE} {u : Nat → Nat} {arr : Nat → Nat → Nat → Nat} {m n : Nat} {k : IntKind} (hx : x.evv u arr = m) (hz : z.evv u arr = n) (h : m ≠ n) : (SB.cmp .eql k x z).evv u arr = false := by
  unfold SB.evv; rw [hx, hz, eql_f]; exact h
theorem fGtt {x z : SE} {u : Nat → Nat} {arr : Nat → Nat → Nat → Nat} {m n : Nat} (hx : x.evv u arr = m) (hz : z.evv u arr = n) (h : n < m ∧ m < 1000000) : (SB.cmp .gtr .i64 x z).evv u arr = true := by
  unfold SB.evv; rw [hx, hz, gtr_t (s63 h.2) (s63 (by omega))]; exact h.1
theorem fGtf {x z : SE} {u : Nat → Nat} {arr : Nat → Nat → Nat → Nat} {m n : Nat} (hx : x.evv u arr = m) (hz : z.evv u arr = n) (h : m ≤ n ∧ n < 1000000) : (SB.cmp .gtr .i64 x z).evv u arr = false := by
  unfold SB.evv; rw [hx, hz, gtr_f (s63 (by omega)) (s63 h.2)]; exact h.1
theorem subS {x z : SE} {u : Nat → Nat} {arr : Nat → Nat → Nat → Nat} {m n : Nat} (hx : x.evv u arr = m) (hz : z.evv u arr = n) (h : n ≤ m ∧ m < 1000000) : (SE.bin .sub .i64 x z).evv u arr = m - n := by
  simp only [SE.evv, opN]; rw [hx, hz]
  have e : m + (md .i64 - n) = (m - n) + md .i64 := by
    have : n ≤ md .i64 := by rw [m64]; omega
    generalize md .i64 = M at this ⊢
    omega
  rw [e, Nat.add_mod_right]
  exact smallM (by omega)
theorem mulS {x z : SE} {u : Nat → Nat} {arr : Nat → Nat → Nat → Nat} {m n : Nat} (hx : x.evv u arr = m) (hz : z.evv u arr = n) (h : m * n < 1000000) : (SE.bin .mul .i64 x z).evv u arr = m * n := by
  simp only [SE.evv, opN]; rw [hx, hz]; exact smallM h
theorem aOf_bnd (i : Nat) : 1 ≤ aOf i ∧ aOf i ≤ 600 := by unfold aOf; omega
theorem bOf_le (i o : Nat) : bOf i o ≤ aOf i := by
  unfold bOf
  have := Nat.mod_lt o (show 0 < aOf i + 1 by omega)
  omega
structure QV (u : Nat → Nat) (arr : Nat → Nat → Nat → Nat) (a b : Nat) : Prop where
  a1 : 1 ≤ a
  ha : a ≤ 600
  hb : b ≤ a
  u5 : u 5 = a + b
  u24 : u 24 = 3 * (a + b)
  c6 : ∀ c q, q < 10000 → arr 6 c q = logA a c q
  c7 : ∀ c q, arr 7 c q = 0
section
variable {v : Nat → Nat} {arr : Nat → Nat → Nat → Nat} {a b : Nat} (T : TopV v arr a b)
include T
theorem TopV.a1 : 1 ≤ a := by rw [T.e0]; exact (aOf_bnd _).1
theorem TopV.ha : a ≤ 600 := by rw [T.e0]; exact (aOf_bnd _).2
theorem TopV.hb : b ≤ a := by rw [T.e1, T.e0]; exact bOf_le _ _
theorem TopV.kb : KB v arr a b := ⟨T.u5, T.u14, T.a1, T.ha, T.hb, T.c1, T.c6, T.c8⟩
theorem TopV.qv : QV v arr a b := ⟨T.a1, T.ha, T.hb, T.u5, T.u24, T.c6, T.c7⟩
theorem TopV.e2 : (y 2).evv v arr = a := yE T.u2 (by have := T.ha; omega)
theorem TopV.e3 : (y 3).evv v arr = b := yE T.u3 (by have := T.ha; have := T.hb; omega)
theorem TopV.e5 : (y 5).evv v arr = a + b := yE T.u5 (by have := T.ha; have := T.hb; omega)
theorem TopV.e14 : (y 14).evv v arr = 20 * (a + b) := yE T.u14 (by have := T.ha; have := T.hb; omega)
theorem TopV.e31 : (y 31).evv v arr = a - b := yE T.u31 (by have := T.ha; omega)
end
theorem QV.sm {u : Nat → Nat} {arr : Nat → Nat → Nat → Nat} {a b : Nat} (Q : QV u arr a b) : 1 ≤ a ∧ a ≤ 600 ∧ b ≤ a := ⟨Q.a1, Q.ha, Q.hb⟩
theorem QV.s6 {u : Nat → Nat} {arr : Nat → Nat → Nat → Nat} {a b : Nat} (Q : QV u arr a b) {x : SE} {c m : Nat} (hx : x.evv u arr = m) (hm : m < 10000) : (SE.sel .i64 6 c x).evv u arr = logA a c m := by
  refine selS hx (Q.c6 _ _ hm) ?_
  unfold logA
  (repeat' split) <;> omega
theorem QV.s7 {u : Nat → Nat} {arr : Nat → Nat → Nat → Nat} {a b : Nat} (Q : QV u arr a b) {x : SE} {c m : Nat} (hx : x.evv u arr = m) : (SE.sel .i64 7 c x).evv u arr = 0 := selS hx (Q.c7 _ _) (by decide)
section
variable {u : Nat → Nat} {arr : Nat → Nat → Nat → Nat} {a b m : Nat} (Q : QV u arr a b)
include Q
theorem rs3A_ok : AsmV rs3A u arr := by
  unfold rs3A
  repeat' (first | with_reducible exact asmV_nil.2 trivial | with_reducible refine asmV_pair ?_ ?_)
  all_goals (try ((first | with_reducible apply fEt | with_reducible apply fEf | with_reducible apply fLt | with_reducible apply fLf | with_reducible apply fUt | with_reducible apply fGtt | with_reducible apply fGtf); (focus (first | with_reducible exact litS | with_reducible exact yE (QV.u5 Q) (by have := QV.sm Q; omega) | with_reducible exact yE (QV.u24 Q) (by have := QV.sm Q; omega) | with_reducible exact yE (QV.u5 Q) (by have := QV.sm Q; omega) | with_reducible exact yE (QV.u24 Q) (by have := QV.sm Q; omega) | with_reducible exact addS (yE (QV.u5 Q) (by have := QV.sm Q; omega)) litS (by have := QV.sm Q; omega) | with_reducible exact addS (yE (QV.u24 Q) (by have := QV.sm Q; omega)) litS (by have := QV.sm Q; omega) | with_reducible exact QV.s7 Q litS | with_reducible exact QV.s7 Q (yE (QV.u5 Q) (by have := QV.sm Q; omega)) | with_reducible exact QV.s7 Q (yE (QV.u24 Q) (by have := QV.sm Q; omega)) | with_reducible exact QV.s6 Q litS (by omega) | with_reducible exact QV.s6 Q (yE (QV.u24 Q) (by have := QV.sm Q; omega)) (by have := QV.sm Q; omega) | with_reducible exact QV.s6 Q (addS (yE (QV.u24 Q) (by have := QV.sm Q; omega)) litS (by have := QV.sm Q; omega)) (by have := QV.sm Q; omega))); (focus (first | with_reducible exact litS | with_reducible exact yE (QV.u5 Q) (by have := QV.sm Q; omega) | with_reducible exact yE (QV.u24 Q) (by have := QV.sm Q; omega) | with_reducible exact yE (QV.u5 Q) (by have := QV.sm Q; omega) | with_reducible exact yE (QV.u24 Q) (by have := QV.sm Q; omega) | with_reducible exact addS (yE (QV.u5 Q) (by have := QV.sm Q; omega)) litS (by have := QV.sm Q; omega) | with_reducible exact addS (yE (QV.u24 Q) (by have := QV.sm Q; omega)) litS (by have := QV.sm Q; omega) | with_reducible exact QV.s7 Q litS | with_reducible exact QV.s7 Q (yE (QV.u5 Q) (by have := QV.sm Q; omega)) | with_reducible exact QV.s7 Q (yE (QV.u24 Q) (by have := QV.sm Q; omega)) | with_reducible exact QV.s6 Q litS (by omega) | with_reducible exact QV.s6 Q (yE (QV.u24 Q) (by have := QV.sm Q; omega)) (by have := QV.sm Q; omega) | with_reducible exact QV.s6 Q (addS (yE (QV.u24 Q) (by have := QV.sm Q; omega)) litS (by have := QV.sm Q; omega)) (by have := QV.sm Q; omega))); (focus (first | with_reducible rfl | (have := QV.sm Q; omega) | (simp [logA_0, logA_1, logA_2, logA_3, logA]; done) | (simp [logA_0, logA_1, logA_2, logA_3, logA]; first | omega | (split <;> omega))))))
theorem rsal_ok : AsmV rsal u arr := by
  unfold rsal
  repeat' (first | with_reducible exact asmV_nil.2 trivial | with_reducible refine asmV_pair ?_ ?_)
  all_goals (try ((first | with_reducible apply fEt | with_reducible apply fEf | with_reducible apply fLt | with_reducible apply fLf | with_reducible apply fUt | with_reducible apply fGtt | with_reducible apply fGtf); (focus (first | with_reducible exact litS | with_reducible exact yE (QV.u5 Q) (by have := QV.sm Q; omega) | with_reducible exact yE (QV.u24 Q) (by have := QV.sm Q; omega) | with_reducible exact yE (QV.u5 Q) (by have := QV.sm Q; omega) | with_reducible exact yE (QV.u24 Q) (by have := QV.sm Q; omega) | with_reducible exact addS (yE (QV.u5 Q) (by have := QV.sm Q; omega)) litS (by have := QV.sm Q; omega) | with_reducible exact addS (yE (QV.u24 Q) (by have := QV.sm Q; omega)) litS (by have := QV.sm Q; omega) | with_reducible exact QV.s7 Q litS | with_reducible exact QV.s7 Q (yE (QV.u5 Q) (by have := QV.sm Q; omega)) | with_reducible exact QV.s7 Q (yE (QV.u24 Q) (by have := QV.sm Q; omega)) | with_reducible exact QV.s6 Q litS (by omega) | with_reducible exact QV.s6 Q (yE (QV.u24 Q) (by have := QV.sm Q; omega)) (by have := QV.sm Q; omega) | with_reducible exact QV.s6 Q (addS (yE (QV.u24 Q) (by have := QV.sm Q; omega)) litS (by have := QV.sm Q; omega)) (by have := QV.sm Q; omega))); (focus (first | with_reducible exact litS | with_reducible exact yE (QV.u5 Q) (by have := QV.sm Q; omega) | with_reducible exact yE (QV.u24 Q) (by have := QV.sm Q; omega) | with_reducible exact yE (QV.u5 Q) (by have := QV.sm Q; omega) | with_reducible exact yE (QV.u24 Q) (by have := QV.sm Q; omega) | with_reducible exact addS (yE (QV.u5 Q) (by have := QV.sm Q; omega)) litS (by have := QV.sm Q; omega) | with_reducible exact addS (yE (QV.u24 Q) (by have := QV.sm Q; omega)) litS (by have := QV.sm Q; omega) | with_reducible exact QV.s7 Q litS | with_reducible exact QV.s7 Q (yE (QV.u5 Q) (by have := QV.sm Q; omega)) | with_reducible exact QV.s7 Q (yE (QV.u24 Q) (by have := QV.sm Q; omega)) | with_reducible exact QV.s6 Q litS (by omega) | with_reducible exact QV.s6 Q (yE (QV.u24 Q) (by have := QV.sm Q; omega)) (by have := QV.sm Q; omega) | with_reducible exact QV.s6 Q (addS (yE (QV.u24 Q) (by have := QV.sm Q; omega)) litS (by have := QV.sm Q; omega)) (by have := QV.sm Q; omega))); (focus (first | with_reducible rfl | (have := QV.sm Q; omega) | (simp [logA_0, logA_1, logA_2, logA_3, logA]; done) | (simp [logA_0, logA_1, logA_2, logA_3, logA]; first | omega | (split <;> omega))))))
theorem rsbl_ok (h27 : u 27 = m) (h28 : u 28 = 3 * m) (hm : m < a + b) : AsmV rsbl u arr := by
  unfold rsbl
  repeat' (first | with_reducible exact asmV_nil.2 trivial | with_reducible refine asmV_pair ?_ ?_)
  all_goals (try ((first | with_reducible apply fEt | with_reducible apply fEf | with_reducible apply fLt | with_reducible apply fLf | with_reducible apply fUt | with_reducible apply fGtt | with_reducible apply fGtf); (focus (first | with_reducible exact litS | with_reducible exact yE h27 (by have := QV.sm Q; omega) | with_reducible exact yE h28 (by have := QV.sm Q; omega) | with_reducible exact yE (QV.u5 Q) (by have := QV.sm Q; omega) | with_reducible exact yE (QV.u24 Q) (by have := QV.sm Q; omega) | with_reducible exact addS (yE h27 (by have := QV.sm Q; omega)) litS (by have := QV.sm Q; omega) | with_reducible exact addS (yE h28 (by have := QV.sm Q; omega)) litS (by have := QV.sm Q; omega) | with_reducible exact QV.s7 Q litS | with_reducible exact QV.s7 Q (yE h27 (by have := QV.sm Q; omega)) | with_reducible exact QV.s7 Q (yE h28 (by have := QV.sm Q; omega)) | with_reducible exact QV.s6 Q litS (by omega) | with_reducible exact QV.s6 Q (yE h28 (by have := QV.sm Q; omega)) (by have := QV.sm Q; omega) | with_reducible exact QV.s6 Q (addS (yE h28 (by have := QV.sm Q; omega)) litS (by have := QV.sm Q; omega)) (by have := QV.sm Q; omega))); (focus (first | with_reducible exact litS | with_reducible exact yE h27 (by have := QV.sm Q; omega) | with_reducible exact yE h28 (by have := QV.sm Q; omega) | with_reducible exact yE (QV.u5 Q) (by have := QV.sm Q; omega) | with_reducible exact yE (QV.u24 Q) (by have := QV.sm Q; omega) | with_reducible exact addS (yE h27 (by have := QV.sm Q; omega)) litS (by have := QV.sm Q; omega) | with_reducible exact addS (yE h28 (by have := QV.sm Q; omega)) litS (by have := QV.sm Q; omega) | with_reducible exact QV.s7 Q litS | with_reducible exact QV.s7 Q (yE h27 (by have := QV.sm Q; omega)) | with_reducible exact QV.s7 Q (yE h28 (by have := QV.sm Q; omega)) | with_reducible exact QV.s6 Q litS (by omega) | with_reducible exact QV.s6 Q (yE h28 (by have := QV.sm Q; omega)) (by have := QV.sm Q; omega) | with_reducible exact QV.s6 Q (addS (yE h28 (by have := QV.sm Q; omega)) litS (by have := QV.sm Q; omega)) (by have := QV.sm Q; omega))); (focus (first | with_reducible rfl | (have := QV.sm Q; omega) | (simp [logA_0, logA_1, logA_2, logA_3, logA]; done) | (simp [logA_0, logA_1, logA_2, logA_3, logA]; first | omega | (split <;> omega))))))
theorem rsxl_ok (h27 : u 27 = m) (h28 : u 28 = 3 * m) (hm : m = a + b) : AsmV rsxl u arr := by
  unfold rsxl
  repeat' (first | with_reducible exact asmV_nil.2 trivial | with_reducible refine asmV_pair ?_ ?_)
  all_goals (try ((first | with_reducible apply fEt | with_reducible apply fEf | with_reducible apply fLt | with_reducible apply fLf | with_reducible apply fUt | with_reducible apply fGtt | with_reducible apply fGtf); (focus (first | with_reducible exact litS | with_reducible exact yE h27 (by have := QV.sm Q; omega) | with_reducible exact yE h28 (by have := QV.sm Q; omega) | with_reducible exact yE (QV.u5 Q) (by have := QV.sm Q; omega) | with_reducible exact yE (QV.u24 Q) (by have := QV.sm Q; omega) | with_reducible exact addS (yE h27 (by have := QV.sm Q; omega)) litS (by have := QV.sm Q; omega) | with_reducible exact addS (yE h28 (by have := QV.sm Q; omega)) litS (by have := QV.sm Q; omega) | with_reducible exact QV.s7 Q litS | with_reducible exact QV.s7 Q (yE h27 (by have := QV.sm Q; omega)) | with_reducible exact QV.s7 Q (yE h28 (by have := QV.sm Q; omega)) | with_reducible exact QV.s6 Q litS (by omega) | with_reducible exact QV.s6 Q (yE h28 (by have := QV.sm Q; omega)) (by have := QV.sm Q; omega) | with_reducible exact QV.s6 Q (addS (yE h28 (by have := QV.sm Q; omega)) litS (by have := QV.sm Q; omega)) (by have := QV.sm Q; omega))); (focus (first | with_reducible exact litS | with_reducible exact yE h27 (by have := QV.sm Q; omega) | with_reducible exact yE h28 (by have := QV.sm Q; omega) | with_reducible exact yE (QV.u5 Q) (by have := QV.sm Q; omega) | with_reducible exact yE (QV.u24 Q) (by have := QV.sm Q; omega) | with_reducible exact addS (yE h27 (by have := QV.sm Q; omega)) litS (by have := QV.sm Q; omega) | with_reducible exact addS (yE h28 (by have := QV.sm Q; omega)) litS (by have := QV.sm Q; omega) | with_reducible exact QV.s7 Q litS | with_reducible exact QV.s7 Q (yE h27 (by have := QV.sm Q; omega)) | with_reducible exact QV.s7 Q (yE h28 (by have := QV.sm Q; omega)) | with_reducible exact QV.s6 Q litS (by omega) | with_reducible exact QV.s6 Q (yE h28 (by have := QV.sm Q; omega)) (by have := QV.sm Q; omega) | with_reducible exact QV.s6 Q (addS (yE h28 (by have := QV.sm Q; omega)) litS (by have := QV.sm Q; omega)) (by have := QV.sm Q; omega))); (focus (first | with_reducible rfl | (have := QV.sm Q; omega) | (simp [logA_0, logA_1, logA_2, logA_3, logA]; done) | (simp [logA_0, logA_1, logA_2, logA_3, logA]; first | omega | (split <;> omega))))))
theorem idkl_ok (h29 : u 29 = m) (hm : m < a + b) : AsmV idkl u arr := by
  unfold idkl
  repeat' (first | with_reducible exact asmV_nil.2 trivial | with_reducible refine asmV_pair ?_ ?_)
  all_goals (try ((first | with_reducible apply fEt | with_reducible apply fEf | with_reducible apply fLt | with_reducible apply fLf | with_reducible apply fUt | with_reducible apply fGtt | with_reducible apply fGtf); (focus (first | with_reducible exact litS | with_reducible exact yE h29 (by have := QV.sm Q; omega) | with_reducible exact yE (QV.u24 Q) (by have := QV.sm Q; omega) | with_reducible exact yE (QV.u5 Q) (by have := QV.sm Q; omega) | with_reducible exact yE (QV.u24 Q) (by have := QV.sm Q; omega) | with_reducible exact addS (yE h29 (by have := QV.sm Q; omega)) litS (by have := QV.sm Q; omega) | with_reducible exact addS (yE (QV.u24 Q) (by have := QV.sm Q; omega)) litS (by have := QV.sm Q; omega) | with_reducible exact QV.s7 Q litS | with_reducible exact QV.s7 Q (yE h29 (by have := QV.sm Q; omega)) | with_reducible exact QV.s7 Q (yE (QV.u24 Q) (by have := QV.sm Q; omega)) | with_reducible exact QV.s6 Q litS (by omega) | with_reducible exact QV.s6 Q (yE (QV.u24 Q) (by have := QV.sm Q; omega)) (by have := QV.sm Q; omega) | with_reducible exact QV.s6 Q (addS (yE (QV.u24 Q) (by have := QV.sm Q; omega)) litS (by have := QV.sm Q; omega)) (by have := QV.sm Q; omega))); (focus (first | with_reducible exact litS | with_reducible exact yE h29 (by have := QV.sm Q; omega) | with_reducible exact yE (QV.u24 Q) (by have := QV.sm Q; omega) | with_reducible exact yE (QV.u5 Q) (by have := QV.sm Q; omega) | with_reducible exact yE (QV.u24 Q) (by have := QV.sm Q; omega) | with_reducible exact addS (yE h29 (by have := QV.sm Q; omega)) litS (by have := QV.sm Q; omega) | with_reducible exact addS (yE (QV.u24 Q) (by have := QV.sm Q; omega)) litS (by have := QV.sm Q; omega) | with_reducible exact QV.s7 Q litS | with_reducible exact QV.s7 Q (yE h29 (by have := QV.sm Q; omega)) | with_reducible exact QV.s7 Q (yE (QV.u24 Q) (by have := QV.sm Q; omega)) | with_reducible exact QV.s6 Q litS (by omega) | with_reducible exact QV.s6 Q (yE (QV.u24 Q) (by have := QV.sm Q; omega)) (by have := QV.sm Q; omega) | with_reducible exact QV.s6 Q (addS (yE (QV.u24 Q) (by have := QV.sm Q; omega)) litS (by have := QV.sm Q; omega)) (by have := QV.sm Q; omega))); (focus (first | with_reducible rfl | (have := QV.sm Q; omega) | (simp [logA_0, logA_1, logA_2, logA_3, logA]; done) | (simp [logA_0, logA_1, logA_2, logA_3, logA]; first | omega | (split <;> omega))))))
theorem idxl_ok (h29 : u 29 = m) (hm : m = a + b) : AsmV idxl u arr := by
  unfold idxl
  repeat' (first | with_reducible exact asmV_nil.2 trivial | with_reducible refine asmV_pair ?_ ?_)
  all_goals (try ((first | with_reducible apply fEt | with_reducible apply fEf | with_reducible apply fLt | with_reducible apply fLf | with_reducible apply fUt | with_reducible apply fGtt | with_reducible apply fGtf); (focus (first | with_reducible exact litS | with_reducible exact yE h29 (by have := QV.sm Q; omega) | with_reducible exact yE (QV.u24 Q) (by have := QV.sm Q; omega) | with_reducible exact yE (QV.u5 Q) (by have := QV.sm Q; omega) | with_reducible exact yE (QV.u24 Q) (by have := QV.sm Q; omega) | with_reducible exact addS (yE h29 (by have := QV.sm Q; omega)) litS (by have := QV.sm Q; omega) | with_reducible exact addS (yE (QV.u24 Q) (by have := QV.sm Q; omega)) litS (by have := QV.sm Q; omega) | with_reducible exact QV.s7 Q litS | with_reducible exact QV.s7 Q (yE h29 (by have := QV.sm Q; omega)) | with_reducible exact QV.s7 Q (yE (QV.u24 Q) (by have := QV.sm Q; omega)) | with_reducible exact QV.s6 Q litS (by omega) | with_reducible exact QV.s6 Q (yE (QV.u24 Q) (by have := QV.sm Q; omega)) (by have := QV.sm Q; omega) | with_reducible exact QV.s6 Q (addS (yE (QV.u24 Q) (by have := QV.sm Q; omega)) litS (by have := QV.sm Q; omega)) (by have := QV.sm Q; omega))); (focus (first | with_reducible exact litS | with_reducible exact yE h29 (by have := QV.sm Q; omega) | with_reducible exact yE (QV.u24 Q) (by have := QV.sm Q; omega) | with_reducible exact yE (QV.u5 Q) (by have := QV.sm Q; omega) | with_reducible exact yE (QV.u24 Q) (by have := QV.sm Q; omega) | with_reducible exact addS (yE h29 (by have := QV.sm Q; omega)) litS (by have := QV.sm Q; omega) | with_reducible exact addS (yE (QV.u24 Q) (by have := QV.sm Q; omega)) litS (by have := QV.sm Q; omega) | with_reducible exact QV.s7 Q litS | with_reducible exact QV.s7 Q (yE h29 (by have := QV.sm Q; omega)) | with_reducible exact QV.s7 Q (yE (QV.u24 Q) (by have := QV.sm Q; omega)) | with_reducible exact QV.s6 Q litS (by omega) | with_reducible exact QV.s6 Q (yE (QV.u24 Q) (by have := QV.sm Q; omega)) (by have := QV.sm Q; omega) | with_reducible exact QV.s6 Q (addS (yE (QV.u24 Q) (by have := QV.sm Q; omega)) litS (by have := QV.sm Q; omega)) (by have := QV.sm Q; omega))); (focus (first | with_reducible rfl | (have := QV.sm Q; omega) | (simp [logA_0, logA_1, logA_2, logA_3, logA]; done) | (simp [logA_0, logA_1, logA_2, logA_3, logA]; first | omega | (split <;> omega))))))
end
end Go.Sx
/-
  results, and InflateDeep itself.
-/
namespace Go.Sx
open Go Go.Proofs
theorem Leads.at {cd : XCode} {fn : FuncId} {ex : Ex} {N : Nat} {t t' : Tr AV} {l l' : List (Nat × AO)} {n n' : Nat} {A : Asm} {v v' : Nat → Nat} {arr arr' : Nat → Nat → Nat → Nat}
    (h : Leads Tryz.prog cd fn ex N ⟨t, l, n, A, v, arr⟩ ⟨t', l', n', A, v', arr'⟩) (hA : AsmV A v arr) : Leads Tryz.prog cd fn ex N ⟨t, l, n, [], v, arr⟩ ⟨t', l', n', [], v', arr'⟩ :=
  .pre (Imp.facts hA) (h.post (Imp.facts (asmV_nil.2 trivial)))
def rV (v : Nat → Nat) (m : Nat) : Nat → Nat
  | 27 => m | 28 => 3 * m | i => v i
def nV (v : Nat → Nat) (n : Nat) : Nat → Nat
  | 29 => n | i => v i
theorem AsmV.nil {v : Nat → Nat} {arr : Nat → Nat → Nat → Nat} : AsmV [] v arr := asmV_nil.2 trivial
section
variable {v : Nat → Nat} {arr : Nat → Nat → Nat → Nat} {a b : Nat} (T : TopV v arr a b)
include T
theorem TopV.rq (m : Nat) : QV (rV v m) arr a b := ⟨T.a1, T.ha, T.hb, T.u5, T.u24, T.c6, T.c7⟩
theorem TopV.nq (m : Nat) : QV (nV v m) arr a b := ⟨T.a1, T.ha, T.hb, T.u5, T.u24, T.c6, T.c7⟩
theorem rows_same {j : Nat} {ks : List IntKind} {x z : SE} {l : List RowEq} {u u' : Nat → Nat} {m : Nat} (hx : x.evv u arr = m) (hz : z.evv u' arr = m) (h : m < 1000000) (k : RowsV l u arr u' arr) : RowsV (⟨j, ks, x, j, z, []⟩ :: l) u arr u' arr :=
  rowsV_keep hx hz ⟨rfl, h⟩ k
theorem res_rounds : ∀ m, 1 ≤ m → m ≤ a + b → Rounds Tryz.prog rsB 9 7 ⟨rs4T, rs4L, 8, [], v, arr⟩ ⟨rsKT, rsKL, 9, [], rV v m, arr⟩ := by
  have sm := T.qv.sm
  have r0 : Rounds Tryz.prog rsB 9 7 ⟨rs4T, rs4L, 8, [], v, arr⟩ ⟨rsKT, rsKL, 9, [], rV v 1, arr⟩ := by
    have f : AsmV rsaA v arr := by rw [rsaA_eq]; exact AsmV.append AsmV.nil (rsal_ok T.qv)
    refine .imp (Imp.facts f) ((rsa_run f T.bn).trans (.is (Imp.ren rsar_ren ?_ ?_ AsmV.nil)))
    · exact eqsV_cons.2 ⟨rfl, eqsV_cons.2 ⟨rfl, eqsV_cons.2 ⟨rfl, eqsV_cons.2 ⟨rfl, eqsV_cons.2 ⟨rfl, eqsV_cons.2 ⟨rfl, eqsV_cons.2 ⟨rfl, eqsV_cons.2 ⟨rfl, eqV_end⟩⟩⟩⟩⟩⟩⟩⟩
    · exact rows_same T (yE (T.rq 1).u24 (by omega)) (yE T.u24 (by omega)) (by omega) (rows_same T (m := 1) rfl rfl (by omega) (rows_same T (yE (T.rq 1).u24 (by omega)) (yE T.u24 (by omega)) (by omega) rowsV_end))
  intro m
  induction m with
  | zero => intro h; omega
  | succ m ih =>
    intro _ hm
    by_cases h0 : m = 0
    · subst h0; exact r0
    have Q := T.rq m
    have h27 : rV v m 27 = m := rfl
    have h28 : rV v m 28 = 3 * m := rfl
    have f : AsmV rsbA (rV v m) arr := by rw [rsbA_eq]; exact AsmV.append AsmV.nil (rsbl_ok Q h27 h28 (by omega))
    refine (ih (by omega) (by omega)).trans (.imp (Imp.facts f) ((rsb_run f T.bn).trans (.is (Imp.ren rsbr_ren ?_ ?_ AsmV.nil))))
    · refine eqsV_cons.2 ⟨rfl, eqsV_cons.2 ⟨rfl, eqsV_cons.2 ⟨rfl, eqsV_cons.2 ⟨rfl, eqsV_cons.2 ⟨rfl, eqV_pair (yE (n := 3 * (m + 1)) rfl (by omega)) (addS (yE h28 (by omega)) litS (by omega)) (by omega) (eqV_pair (yE (n := m + 1) rfl (by omega)) (addS (yE h27 (by omega)) litS (by omega)) rfl (eqsV_cons.2 ⟨rfl, eqV_end⟩))⟩⟩⟩⟩⟩
    · exact rows_same T (yE (T.rq (m + 1)).u24 (by omega)) (yE Q.u24 (by omega)) (by omega) (rows_same T (yE (n := m + 1) rfl (by omega)) (addS (yE h27 (by omega)) litS (by omega)) (by omega) (rows_same T (yE (T.rq (m + 1)).u24 (by omega)) (yE Q.u24 (by omega)) (by omega) rowsV_end))
theorem res_leads : Leads Tryz.prog (.seq rsc0 (.seq rsc1 (.seq rsc2 (.seq (.seq rsc3 (.block 0 (.loop rsB))) (.seq rsc5 .ret))))) 9 .ret 7 ⟨rs0T, rs0L, 7, [], v, arr⟩ ⟨rsE6T, rsE6L, 8, [], v, arr⟩ := by
  have sm := T.qv.sm
  have Q := T.rq (a + b)
  have f : AsmV rsxA (rV v (a + b)) arr := by rw [rsxA_eq]; exact AsmV.append AsmV.nil (rsxl_ok (m := a + b) Q rfl rfl rfl)
  have o : Leads Tryz.prog (.loop rsB) 9 (.exit 0) 7 ⟨rs4T, rs4L, 8, [], v, arr⟩ ⟨rsET, rsEL, 8, [], v, arr⟩ := by
    refine ((res_rounds T (a + b) (by omega) (Nat.le_refl _)).trans (.is (Imp.facts f))).out ((rsx_out f T.bn).post (Imp.ren rsxr_ren ?_ ?_ AsmV.nil)) (by intro h; cases h)
    · exact eqsV_cons.2 ⟨rfl, eqsV_cons.2 ⟨rfl, eqsV_cons.2 ⟨rfl, eqsV_cons.2 ⟨rfl, eqsV_cons.2 ⟨rfl, eqV_pair (yE T.u5 (by omega)) (yE (n := a + b) rfl (by omega)) rfl eqV_end⟩⟩⟩⟩⟩
    · exact rows_same T (yE T.u24 (by omega)) (yE Q.u24 (by omega)) (by omega) (rows_same T (yE T.u5 (by omega)) (yE (n := a + b) rfl (by omega)) (by omega) rowsV_end)
  exact ((rs1_lead AsmV.nil T.bn).at AsmV.nil).seq (((rs2_lead AsmV.nil T.bn).at AsmV.nil).seq (((rs3_lead (rs3A_ok T.qv) T.bn).at (rs3A_ok T.qv)).seq ((((rs4_lead AsmV.nil T.bn).at AsmV.nil).seq o.block).seq (((rsE5_lead AsmV.nil T.bn).at AsmV.nil).seq ((rsE6_lead AsmV.nil T.bn).at AsmV.nil)))))
/-- The loop over the results. -/
theorem id_rounds : ∀ m, m ≤ a + b → Rounds Tryz.prog idB 3 0 ⟨id10T, id10L, 8, [], v, arr⟩ ⟨idKT, idKL, 8, [], nV v m, arr⟩ := by
  have sm := T.qv.sm
  intro m
  induction m with
  | zero =>
    intro _
    refine .is (Imp.ren id10r_ren ?_ ?_ AsmV.nil)
    · exact eqsV_cons.2 ⟨rfl, eqsV_cons.2 ⟨rfl, eqsV_cons.2 ⟨rfl, eqsV_cons.2 ⟨rfl, eqsV_cons.2 ⟨rfl, eqsV_cons.2 ⟨rfl, eqsV_cons.2 ⟨rfl, eqsV_cons.2 ⟨rfl, eqsV_cons.2 ⟨rfl, eqV_end⟩⟩⟩⟩⟩⟩⟩⟩⟩
    · exact rows_same T (yE (T.nq 0).u5 (by omega)) (yE T.u5 (by omega)) (by omega) (rows_same T (yE (T.nq 0).u24 (by omega)) (yE T.u24 (by omega)) (by omega) rowsV_end)
  | succ m ih =>
    intro hm
    have Q := T.nq m
    have h29 : nV v m 29 = m := rfl
    have f : AsmV idkA (nV v m) arr := by rw [idkA_eq]; exact AsmV.append AsmV.nil (idkl_ok Q h29 (by omega))
    refine (ih (by omega)).trans (.imp (Imp.facts f) ((idk_run f T.bn).trans (.is (Imp.ren idkr_ren ?_ ?_ AsmV.nil))))
    · exact eqsV_cons.2 ⟨rfl, eqsV_cons.2 ⟨rfl, eqsV_cons.2 ⟨rfl, eqsV_cons.2 ⟨rfl, eqsV_cons.2 ⟨rfl, eqsV_cons.2 ⟨rfl, eqV_pair (yE (n := m + 1) rfl (by omega)) (addS (yE h29 (by omega)) litS (by omega)) rfl (eqsV_cons.2 ⟨rfl, eqsV_cons.2 ⟨rfl, eqV_end⟩⟩)⟩⟩⟩⟩⟩⟩
    · exact rows_same T (yE (T.nq (m + 1)).u5 (by omega)) (yE Q.u5 (by omega)) (by omega) (rows_same T (yE (T.nq (m + 1)).u24 (by omega)) (yE Q.u24 (by omega)) (by omega) rowsV_end)
end
end Go.Sx
/-
  InflateDeep: joined.
-/
namespace Go.Sx
open Go Go.Proofs
def tn2E : Eqs := [((y 5), (y 5)), ((.bin .add .i64 (y 14) (.lit 50)), (.bin .add .i64 (y 14) (.lit 50)))]
def tn2R : List RowEq := [⟨1, [.i64, .i64, .i64], (y 5), 1, (y 5), []⟩, ⟨6, [.i64, .i64, .i64, .i64, .i64, .i64, .i64, .i64], (.lit 1), 6, (.lit 1), []⟩]
theorem tn2_ren : seen [] 46 tn2T tn2L 46 tn2T (mkG tn2L 46) = some (tn2E, tn2R) := by kernel_rfl
theorem end_ren : seen [] 0 ieA2T ieA2L 0 ieA2T (mkG ieA2L 0) = some ([], []) := by kernel_rfl
theorem rem64 {m n : Nat} (hm : m < 2 ^ 63) (hn : n < 2 ^ 63) : opN .rem .i64 m n = m % n := by
  have h1 : negN .i64 m = false := by unfold negN; simp only [sgn, Bool.true_and]; exact ble_f hm
  have h2 : negN .i64 n = false := by unfold negN; simp only [sgn, Bool.true_and]; exact ble_f hn
  simp only [opN, h1, h2, Bool.or_false, cond_false]
section
variable {v : Nat → Nat} {arr : Nat → Nat → Nat → Nat} {a b : Nat} (T : TopV v arr a b)
include T
/-! ### turns -/
theorem tn1A_ok : AsmV tn1A v arr := by
  have h1 := T.a1
  have e : ∀ c, (SE.sel .i64 6 c (.lit 0)).evv v arr = logA a c 0 := fun c => selS litS (T.c6 _ _ (by omega)) (by unfold logA; (repeat' split) <;> omega)
  have d : ∀ c, (SE.sel .i64 1 c (.lit 0)).evv v arr = callsA a c 0 := fun c => selS litS (T.c1 _ _) (Nat.lt_of_le_of_lt (callsA_le _ _ _) (by decide))
  unfold tn1A
  refine asmV_pair (fEt (e _) litS ?_) (asmV_pair (fEt (e _) litS ?_) (asmV_pair (fEt (e _) litS ?_) (asmV_pair (fEt (e _) (d _) ?_) (asmV_pair (fEt (e _) (d _) ?_) (asmV_pair (fEt (e _) (d _) ?_) (asmV_pair (fEt (e _) litS ?_) (asmV_pair (fEt (e _) litS ?_) AsmV.nil)))))))
  all_goals simp [logA, callsA]
theorem turns_rounds : Rounds Tryz.prog tnB 6 46 ⟨tn2T, tn2L, 46, [], v, arr⟩ ⟨tnDT, tnDL, 48, [], kV v a (a + b), arr⟩ := by
  have B := T.kb
  have sm := T.qv.sm
  have r0 : Rounds Tryz.prog tnB 6 46 ⟨tn2T, tn2L, 46, [], v, arr⟩ ⟨tn2T, tn2L, 46, [], kV v a 0, arr⟩ := by
    refine .is (Imp.ren tn2_ren ?_ ?_ AsmV.nil)
    · exact eqsV_cons.2 ⟨rfl, eqsV_cons.2 ⟨rfl, eqV_end⟩⟩
    · exact rows_same T (yE B.u5 (by omega)) (yE T.u5 (by omega)) (by omega) (rows_same T (m := 1) rfl rfl (by omega) rowsV_end)
  by_cases h1 : a + b = 0 + 1
  · have := tnS_d B T.bn h1
    rw [← h1] at this
    exact r0.trans this
  have rK : ∀ k, 1 ≤ k → k < a + b → Rounds Tryz.prog tnB 6 46 ⟨tn2T, tn2L, 46, [], v, arr⟩ ⟨tnKT, tnKL, 61, [], kV v a k, arr⟩ := by
    intro k
    induction k with
    | zero => intro h; omega
    | succ k ih =>
      intro _ hk
      by_cases h0 : k = 0
      · subst h0
        exact r0.trans (tnS_k B T.bn (by omega))
      refine (ih (by omega) (by omega)).trans ?_
      by_cases h3 : k < a
      · by_cases h2 : k < 255
        · exact tnTE_k B T.bn (by omega) h2 h3 hk
        · by_cases h4 : k = 255
          · exact tnIE_k B T.bn h4 h3 hk
          · exact tnFE_k B T.bn (by omega) h3 hk
      · by_cases h2 : a ≤ 255
        · exact tnTX_k B T.bn h2 (by omega) (by omega) hk
        · exact tnFX_k B T.bn (by omega) (by omega) (by omega) hk
  have hs : a + b = (a + b - 1) + 1 := by omega
  generalize a + b - 1 = k at hs
  refine (rK k (by omega) (by omega)).trans ?_
  have e : kV v a (a + b) = kV v a (k + 1) := by rw [hs]
  rw [e]
  by_cases h3 : k < a
  · by_cases h2 : k < 255
    · exact tnTE_d B T.bn (by omega) h2 h3 hs
    · by_cases h4 : k = 255
      · exact tnIE_d B T.bn h4 h3 hs
      · exact tnFE_d B T.bn (by omega) h3 hs
  · by_cases h2 : a ≤ 255
    · by_cases h5 : k + 1 = 2 * a
      · exact tnTL_d B T.bn h2 (by omega) h5 hs
      · exact tnTX_d B T.bn h2 (by omega) (by omega) hs
    · by_cases h5 : k + 1 = 2 * a
      · exact tnFL_d B T.bn (by omega) (by omega) h5 hs
      · exact tnFX_d B T.bn (by omega) (by omega) (by omega) hs
theorem turns_leads : Leads Tryz.prog (.seq tnc0 (.seq (.seq tnc1 (.block 0 (.loop tnB))) (.seq tnc2 .ret))) 6 .ret 46 ⟨tn0T, tn0L, 46, [], v, arr⟩ ⟨tnE2T, tnE2L, 47, [], v, arr⟩ := by
  have B := T.kb
  have sm := T.qv.sm
  have H := B.at (a + b) (Nat.le_refl _)
  have hik := H.sm
  have f : AsmV tnXA (kV v a (a + b)) arr := by
    rw [tnXA_eq]
    refine AsmV.append AsmV.nil ?_
    unfold tnXl
    exact asmV_pair (fLt H.e6 (addS H.e14 litS (by omega)) (by omega)) AsmV.nil
  have o : Leads Tryz.prog (.loop tnB) 6 (.exit 0) 46 ⟨tn2T, tn2L, 46, [], v, arr⟩ ⟨tnET, tnEL, 48, [], v, arr⟩ := by
    refine ((turns_rounds T).trans (.is (Imp.facts f))).out ((tnX_out f T.bn).post (Imp.ren tnXr_ren ?_ ?_ AsmV.nil)) (by intro h; cases h)
    · refine eqV_pair (yE T.u24 (by omega)) H.e13 rfl (eqV_pair (addS (yE T.u23 (by omega)) litS (by omega)) (addS H.e6 litS (by omega)) rfl (eqsV_cons.2 ⟨?_, eqsV_cons.2 ⟨?_, eqsV_cons.2 ⟨?_, eqsV_cons.2 ⟨rfl, eqsV_cons.2 ⟨rfl, eqV_end⟩⟩⟩⟩⟩))
      · show v 22 % _ = poolK a (a + b) % _; rw [T.u22]
      · show v 20 % _ = wordK a (a + b) % _; rw [T.u20]
      · show v 21 % _ = holdK a (a + b) % _; rw [T.u21]
    · exact rows_same T (yE T.u5 (by omega)) (yE H.u5 (by omega)) (by omega) (rows_same T (yE T.u24 (by omega)) H.e13 (by omega) (rows_same T (yE T.u5 (by omega)) (yE H.u5 (by omega)) (by omega) rowsV_end))
  exact ((tn1_lead (tn1A_ok T) T.bn).at (tn1A_ok T)).seq ((((tn2_lead AsmV.nil T.bn).at AsmV.nil).seq o.block).seq (((tnE1_lead AsmV.nil T.bn).at AsmV.nil).seq ((tnE2_lead AsmV.nil T.bn).at AsmV.nil)))
/-! ### The facts of the top -/
theorem id5A_ok : AsmV id5A v arr := by
  unfold id5A
  refine asmV_pair (fEt (m := a) ?_ (T.e2) rfl) AsmV.nil
  have h := T.e0
  unfold aOf at h
  have hx : (SE.conv .u16 .i64 (.bin .rem .u16 (.var .u16 0) (.lit 600))).evv v arr = v 0 % 65536 % 600 := rfl
  rw [addS hx litS (by omega)]
  omega
theorem id6A_ok : AsmV id6A v arr := by
  have sm := T.qv.sm
  unfold id6A
  refine asmV_pair (fEf (addS T.e2 litS (by omega)) litS (by omega)) (asmV_pair (fEt (m := b) ?_ T.e3 rfl) AsmV.nil)
  have h := T.e1
  unfold bOf at h
  rw [← T.e0] at h
  have hx : (SE.conv .u16 .i64 (.var .u16 1)).evv v arr = v 1 % 65536 := rfl
  have hz := addS T.e2 (litS (n := 1) (u := v) (arr := arr)) (by omega)
  show opN .rem .i64 ((SE.conv .u16 .i64 (.var .u16 1)).evv v arr) ((SE.bin .add .i64 (y 2) (.lit 1)).evv v arr) = b
  rw [hx, hz, rem64 (s63 (by omega)) (s63 (by omega))]
  exact h.symm
theorem dpA_ok : AsmV dpA v arr := AsmV.append (a := id5A) (b := id6A) (id5A_ok T) (id6A_ok T)
theorem id7AF_ok : AsmV id7AF v arr := by
  have sm := T.qv.sm
  unfold id7AF
  refine asmV_pair (fEt (addS (mulS litS (addS T.e2 T.e3 (by omega)) (by omega)) litS (by omega)) (addS T.e14 litS (by omega)) (by omega)) (asmV_pair (fGf litS T.e5 (by omega)) (asmV_pair (fUt litS T.e5 (by omega)) AsmV.nil))
end
open Classical in
theorem topP_of {v : Nat → Nat} {arr : Nat → Nat → Nat → Nat} {l : Asm} (h : AsmV (((.prop TopP), true) :: l) v arr) : TopP v arr := by
  have h1 := (asmV_cons.1 h).1
  unfold SB.evv at h1
  exact of_decide_eq_true h1
open Classical in
theorem topP_to {v : Nat → Nat} {arr : Nat → Nat → Nat → Nat} {l : Asm} (h : TopP v arr) (k : AsmV l v arr) : AsmV (((.prop TopP), true) :: l) v arr :=
  asmV_pair (by unfold SB.evv; exact decide_eq_true h) k
/-! ### The calls -/
theorem deep_call : CallTo Tryz.prog id7A 8 [.int .i64 (y 2), .int .i64 (y 3)] (mkG dp0L 6) (.slice 6 0 (y 5) (.room 3)) (mkG dpN2L 7) :=
  CallTo.code tabOK (body := (.seq dpc0 (.seq dpc1 (.seq (.seq dpc2 (.block 0 (.loop dpB1))) (.seq (.seq dpc3 (.block 2 (.loop dpB2))) (.seq dpc4 .ret)))))) (res := [.tmp q4]) (l := [.slice 6 0 (y 5) (.room 3)]) (by kernel_rfl)
    (Leads.to fun v arr h => ⟨⟨dp0T, dp0L, 6, id7A, v, arr⟩, ⟨dpN2T, dpN2L, 7, id7A, v, arr⟩, ⟨rfl, rfl, rfl, rfl, rfl⟩, ⟨rfl, rfl, rfl, rfl, rfl⟩, by
      obtain ⟨a, b, T⟩ := topP_of h
      exact deep_leads T.u2 T.u3 T.u5 T.a1 T.ha (Nat.le_trans T.hb T.ha) T.c1 T.bn (dpA_ok T) h⟩) (fun i h => by cases h) (by kernel_rfl)
theorem turns_call : CallTo Tryz.prog id7A 6 [p 13, .int .i64 (.bin .add .i64 (y 14) (.lit 50))] (mkG tn0L 46) (.bool (.lit true)) (mkG tnE2L 47) :=
  CallTo.code tabOK (body := (.seq tnc0 (.seq (.seq tnc1 (.block 0 (.loop tnB))) (.seq tnc2 .ret)))) (res := [.tmp q4]) (l := [.bool (.lit true)]) (by kernel_rfl)
    (Leads.to fun v arr h => ⟨⟨tn0T, tn0L, 46, id7A, v, arr⟩, ⟨tnE2T, tnE2L, 47, id7A, v, arr⟩, ⟨rfl, rfl, rfl, rfl, rfl⟩, ⟨rfl, rfl, rfl, rfl, rfl⟩, by
      obtain ⟨a, b, T⟩ := topP_of h
      exact .pre (Imp.facts AsmV.nil) ((turns_leads T).post (Imp.facts h))⟩) (fun i h => by cases h) (by kernel_rfl)
theorem res_call : CallTo Tryz.prog id9A 9 [p 0, i6 0] (mkG rs0L 7) (.slice 7 0 (y 5) (.room 2)) (mkG rsE6L 8) :=
  CallTo.code tabOK (body := (.seq rsc0 (.seq rsc1 (.seq rsc2 (.seq (.seq rsc3 (.block 0 (.loop rsB))) (.seq rsc5 .ret)))))) (res := [.tmp q4]) (l := [.slice 7 0 (y 5) (.room 2)]) (by kernel_rfl)
    (Leads.to fun v arr h => ⟨⟨rs0T, rs0L, 7, id9A, v, arr⟩, ⟨rsE6T, rsE6L, 8, id9A, v, arr⟩, ⟨rfl, rfl, rfl, rfl, rfl⟩, ⟨rfl, rfl, rfl, rfl, rfl⟩, by
      obtain ⟨a, b, T⟩ := topP_of h
      exact .pre (Imp.facts AsmV.nil) ((res_leads T).post (Imp.facts h))⟩) (fun i h => by cases h) (by kernel_rfl)
theorem knW {asm : Asm} : Known Tryz.prog asm fxW := Known.free wk_call
theorem knM : Known Tryz.prog id7A fxM := Known.both (Known.call deep_call) (Known.call turns_call)
theorem knR : Known Tryz.prog id9A fxR := Known.call res_call
end Go.Sx
/-
  InflateDeep comes to true.
-/
namespace Go.Sx
open Go Go.Proofs
/-! ### The facts of the end -/
noncomputable def ve (w h p d : Nat) (i : Nat) : Nat := cond (Nat.beq i 20) w (cond (Nat.beq i 21) h (cond (Nat.beq i 22) p (cond (Nat.beq i 31) d 0)))
noncomputable def sE (i : Nat) : Bool := cond (Nat.beq i 20) true (cond (Nat.beq i 21) true (cond (Nat.beq i 22) true (Nat.beq i 31)))
theorem ve_ok {u : Nat → Nat} {w h p d : Nat} (h20 : u 20 = w) (h21 : u 21 = h) (h22 : u 22 = p) (h31 : u 31 = d) : ∀ i, sE i = true → u i = ve w h p d i := by
  intro i hi
  by_cases a : i = 20
  · subst a; exact h20
  by_cases b : i = 21
  · subst b; exact h21
  by_cases c : i = 22
  · subst c; exact h22
  by_cases e : i = 31
  · subst e; exact h31
  exfalso
  have f : ∀ j, i ≠ j → Nat.beq i j = false := fun j hj => by cases hb : Nat.beq i j; rfl; exact absurd (Nat.eq_of_beq_eq_true hb) hj
  unfold sE at hi
  rw [f 20 a, f 21 b, f 22 c, f 31 e] at hi
  cases hi
theorem ieAb_all : allBelow 256 (fun d => Nat.ble d 0 || bitsAt sE (ve (75 + d * 4398046511104) 0 1 d) ieAb) = true := by kernel_rfl
theorem ieBb_all : bitsAt sE (ve 73 0 1 0) ieBb = true := by kernel_rfl
theorem ieCb_all : allBelow 601 (fun d => Nat.ble d 0 || bitsAt sE (ve 76 (4294967296 + d) 0 d) ieCb) = true := by kernel_rfl
theorem ieDb_all : bitsAt sE (ve 76 0 0 0) ieDb = true := by kernel_rfl
theorem bits_get' {n lo : Nat} {v' : Nat → Nat → Nat} {l : Asm} (h : allBelow n (fun d => Nat.ble d lo || bitsAt sE (v' d) l) = true) {d : Nat} (hd : lo < d) (hn : d < n) : bitsAt sE (v' d) l = true := by
  have h1 := allBelow_get h d hn
  have h2 : Nat.ble d lo = false := by cases hb : Nat.ble d lo; rfl; exact absurd (Nat.le_of_ble_eq_true hb) (by omega)
  simp only [h2, Bool.false_or] at h1
  exact h1
def body3 : XCode := .seq idc0 (.seq (.seq idc1 idc2) (.seq idc3 (.seq idc4 (.seq idc5 (.seq (.seq idc6 idc7) (.seq idc8 (.seq (.seq idc9 (.block 0 (.loop idB))) (.seq idc11 (.seq idc12 .ret)))))))))
section
variable {v : Nat → Nat} {arr : Nat → Nat → Nat → Nat} {a b : Nat} (T : TopV v arr a b)
include T
theorem TopV.nV (m : Nat) : TopV (nV v m) arr a b := ⟨T.e0, T.e1, T.u2, T.u3, T.u5, T.u14, T.u20, T.u21, T.u22, T.u23, T.u24, T.u31, T.c1, T.c6, T.c7, T.c8, T.bn⟩
/-- The end, in each of four cases. -/
theorem end_leads : Leads Tryz.prog (.seq idc11 (.seq idc12 .ret)) 3 .ret 0 ⟨idx1T, idx1L, 8, [], v, arr⟩ ⟨ieA2T, ieA2L, 0, [], v, arr⟩ := by
  have sm := T.qv.sm
  have x1 : AsmV [((.cmp .eql .i64 (y 5) (.bin .add .i64 (y 2) (y 3))), true)] v arr := asmV_pair (fEt T.e5 (addS T.e2 T.e3 (by omega)) rfl) AsmV.nil
  have hb31 : (SE.bin .sub .i64 (y 2) (y 3)).evv v arr = a - b := subS T.e2 T.e3 (by omega)
  by_cases hi : a ≤ 255
  · by_cases hab : b < a
    · have q1 : wordK a (a + b) = 75 + (a - b) * 4398046511104 := by (have hd : dep a (a + b) = (if (a + b) ≤ a then (a + b) else 2 * a - (a + b)) := rfl; by_cases hc : infl a (a + b); (focus (have hc' : 256 ≤ a ∧ 256 ≤ (a + b) := hc; first | (simp only [wordK, holdK, poolK, if_pos hc]; done) | (simp only [wordK, holdK, poolK, if_pos hc]; generalize dep a (a + b) = d at hd ⊢; (repeat' split) <;> (split at hd <;> omega)))); (focus (have hc' : ¬ (256 ≤ a ∧ 256 ≤ (a + b)) := hc; first | (simp only [wordK, holdK, poolK, if_neg hc]; done) | (simp only [wordK, holdK, poolK, if_neg hc]; generalize dep a (a + b) = d at hd ⊢; (repeat' split) <;> (split at hd <;> omega)))))
      have q2 : holdK a (a + b) = 0 := by (have hd : dep a (a + b) = (if (a + b) ≤ a then (a + b) else 2 * a - (a + b)) := rfl; by_cases hc : infl a (a + b); (focus (have hc' : 256 ≤ a ∧ 256 ≤ (a + b) := hc; first | (simp only [wordK, holdK, poolK, if_pos hc]; done) | (simp only [wordK, holdK, poolK, if_pos hc]; generalize dep a (a + b) = d at hd ⊢; (repeat' split) <;> (split at hd <;> omega)))); (focus (have hc' : ¬ (256 ≤ a ∧ 256 ≤ (a + b)) := hc; first | (simp only [wordK, holdK, poolK, if_neg hc]; done) | (simp only [wordK, holdK, poolK, if_neg hc]; generalize dep a (a + b) = d at hd ⊢; (repeat' split) <;> (split at hd <;> omega)))))
      have q3 : poolK a (a + b) = 1 := by (have hd : dep a (a + b) = (if (a + b) ≤ a then (a + b) else 2 * a - (a + b)) := rfl; by_cases hc : infl a (a + b); (focus (have hc' : 256 ≤ a ∧ 256 ≤ (a + b) := hc; first | (simp only [wordK, holdK, poolK, if_pos hc]; done) | (simp only [wordK, holdK, poolK, if_pos hc]; generalize dep a (a + b) = d at hd ⊢; (repeat' split) <;> (split at hd <;> omega)))); (focus (have hc' : ¬ (256 ≤ a ∧ 256 ≤ (a + b)) := hc; first | (simp only [wordK, holdK, poolK, if_neg hc]; done) | (simp only [wordK, holdK, poolK, if_neg hc]; generalize dep a (a + b) = d at hd ⊢; (repeat' split) <;> (split at hd <;> omega)))))
      have f : AsmV ieAA v arr := by
        rw [ieAA_eq]
        refine AsmV.append (bitsAt_ok (ve_ok (T.u20.trans q1) (T.u21.trans q2) (T.u22.trans q3) T.u31) (bits_get' ieAb_all (d := a - b) (by omega) (by omega))) ?_
        unfold ieAl
        exact asmV_pair (fEt T.e5 (addS T.e2 T.e3 (by omega)) rfl) (asmV_pair (fEt T.e31 hb31 rfl) (asmV_pair (fGtt T.e2 T.e3 (by omega)) AsmV.nil))
      exact ((ieA0_lead f T.bn).at f).seq (((ieA1_lead f T.bn).at f).seq ((ieA2_lead f T.bn).at f))
    · have q1 : wordK a (a + b) = 73 := by (have hd : dep a (a + b) = (if (a + b) ≤ a then (a + b) else 2 * a - (a + b)) := rfl; by_cases hc : infl a (a + b); (focus (have hc' : 256 ≤ a ∧ 256 ≤ (a + b) := hc; first | (simp only [wordK, holdK, poolK, if_pos hc]; done) | (simp only [wordK, holdK, poolK, if_pos hc]; generalize dep a (a + b) = d at hd ⊢; (repeat' split) <;> (split at hd <;> omega)))); (focus (have hc' : ¬ (256 ≤ a ∧ 256 ≤ (a + b)) := hc; first | (simp only [wordK, holdK, poolK, if_neg hc]; done) | (simp only [wordK, holdK, poolK, if_neg hc]; generalize dep a (a + b) = d at hd ⊢; (repeat' split) <;> (split at hd <;> omega)))))
      have q2 : holdK a (a + b) = 0 := by (have hd : dep a (a + b) = (if (a + b) ≤ a then (a + b) else 2 * a - (a + b)) := rfl; by_cases hc : infl a (a + b); (focus (have hc' : 256 ≤ a ∧ 256 ≤ (a + b) := hc; first | (simp only [wordK, holdK, poolK, if_pos hc]; done) | (simp only [wordK, holdK, poolK, if_pos hc]; generalize dep a (a + b) = d at hd ⊢; (repeat' split) <;> (split at hd <;> omega)))); (focus (have hc' : ¬ (256 ≤ a ∧ 256 ≤ (a + b)) := hc; first | (simp only [wordK, holdK, poolK, if_neg hc]; done) | (simp only [wordK, holdK, poolK, if_neg hc]; generalize dep a (a + b) = d at hd ⊢; (repeat' split) <;> (split at hd <;> omega)))))
      have q3 : poolK a (a + b) = 1 := by (have hd : dep a (a + b) = (if (a + b) ≤ a then (a + b) else 2 * a - (a + b)) := rfl; by_cases hc : infl a (a + b); (focus (have hc' : 256 ≤ a ∧ 256 ≤ (a + b) := hc; first | (simp only [wordK, holdK, poolK, if_pos hc]; done) | (simp only [wordK, holdK, poolK, if_pos hc]; generalize dep a (a + b) = d at hd ⊢; (repeat' split) <;> (split at hd <;> omega)))); (focus (have hc' : ¬ (256 ≤ a ∧ 256 ≤ (a + b)) := hc; first | (simp only [wordK, holdK, poolK, if_neg hc]; done) | (simp only [wordK, holdK, poolK, if_neg hc]; generalize dep a (a + b) = d at hd ⊢; (repeat' split) <;> (split at hd <;> omega)))))
      have f : AsmV ieBA v arr := by
        rw [ieBA_eq]
        refine AsmV.append (bitsAt_ok (ve_ok (T.u20.trans q1) (T.u21.trans q2) (T.u22.trans q3) (T.u31.trans (show a - b = 0 by omega))) ieBb_all) ?_
        unfold ieBl
        exact asmV_pair (fEt T.e5 (addS T.e2 T.e3 (by omega)) rfl) (asmV_pair (fEt litS hb31 (by omega)) (asmV_pair (fGtf T.e2 T.e3 (by omega)) AsmV.nil))
      exact ((ieB0_lead f T.bn).at f).seq (((ieB1_lead f T.bn).at f).seq ((ieB2_lead f T.bn).at f))
  · by_cases hab : b < a
    · have q1 : wordK a (a + b) = 76 := by (have hd : dep a (a + b) = (if (a + b) ≤ a then (a + b) else 2 * a - (a + b)) := rfl; by_cases hc : infl a (a + b); (focus (have hc' : 256 ≤ a ∧ 256 ≤ (a + b) := hc; first | (simp only [wordK, holdK, poolK, if_pos hc]; done) | (simp only [wordK, holdK, poolK, if_pos hc]; generalize dep a (a + b) = d at hd ⊢; (repeat' split) <;> (split at hd <;> omega)))); (focus (have hc' : ¬ (256 ≤ a ∧ 256 ≤ (a + b)) := hc; first | (simp only [wordK, holdK, poolK, if_neg hc]; done) | (simp only [wordK, holdK, poolK, if_neg hc]; generalize dep a (a + b) = d at hd ⊢; (repeat' split) <;> (split at hd <;> omega)))))
      have q2 : holdK a (a + b) = 4294967296 + (a - b) := by (have hd : dep a (a + b) = (if (a + b) ≤ a then (a + b) else 2 * a - (a + b)) := rfl; by_cases hc : infl a (a + b); (focus (have hc' : 256 ≤ a ∧ 256 ≤ (a + b) := hc; first | (simp only [wordK, holdK, poolK, if_pos hc]; done) | (simp only [wordK, holdK, poolK, if_pos hc]; generalize dep a (a + b) = d at hd ⊢; (repeat' split) <;> (split at hd <;> omega)))); (focus (have hc' : ¬ (256 ≤ a ∧ 256 ≤ (a + b)) := hc; first | (simp only [wordK, holdK, poolK, if_neg hc]; done) | (simp only [wordK, holdK, poolK, if_neg hc]; generalize dep a (a + b) = d at hd ⊢; (repeat' split) <;> (split at hd <;> omega)))))
      have q3 : poolK a (a + b) = 0 := by (have hd : dep a (a + b) = (if (a + b) ≤ a then (a + b) else 2 * a - (a + b)) := rfl; by_cases hc : infl a (a + b); (focus (have hc' : 256 ≤ a ∧ 256 ≤ (a + b) := hc; first | (simp only [wordK, holdK, poolK, if_pos hc]; done) | (simp only [wordK, holdK, poolK, if_pos hc]; generalize dep a (a + b) = d at hd ⊢; (repeat' split) <;> (split at hd <;> omega)))); (focus (have hc' : ¬ (256 ≤ a ∧ 256 ≤ (a + b)) := hc; first | (simp only [wordK, holdK, poolK, if_neg hc]; done) | (simp only [wordK, holdK, poolK, if_neg hc]; generalize dep a (a + b) = d at hd ⊢; (repeat' split) <;> (split at hd <;> omega)))))
      have f : AsmV ieCA v arr := by
        rw [ieCA_eq]
        refine AsmV.append (bitsAt_ok (ve_ok (T.u20.trans q1) (T.u21.trans q2) (T.u22.trans q3) T.u31) (bits_get' ieCb_all (d := a - b) (by omega) (by omega))) ?_
        unfold ieCl
        exact asmV_pair (fEt T.e5 (addS T.e2 T.e3 (by omega)) rfl) (asmV_pair (fEt T.e31 hb31 rfl) (asmV_pair (fGtt T.e2 T.e3 (by omega)) AsmV.nil))
      exact ((ieC0_lead f T.bn).at f).seq (((ieC1_lead f T.bn).at f).seq ((ieC2_lead f T.bn).at f))
    · have q1 : wordK a (a + b) = 76 := by (have hd : dep a (a + b) = (if (a + b) ≤ a then (a + b) else 2 * a - (a + b)) := rfl; by_cases hc : infl a (a + b); (focus (have hc' : 256 ≤ a ∧ 256 ≤ (a + b) := hc; first | (simp only [wordK, holdK, poolK, if_pos hc]; done) | (simp only [wordK, holdK, poolK, if_pos hc]; generalize dep a (a + b) = d at hd ⊢; (repeat' split) <;> (split at hd <;> omega)))); (focus (have hc' : ¬ (256 ≤ a ∧ 256 ≤ (a + b)) := hc; first | (simp only [wordK, holdK, poolK, if_neg hc]; done) | (simp only [wordK, holdK, poolK, if_neg hc]; generalize dep a (a + b) = d at hd ⊢; (repeat' split) <;> (split at hd <;> omega)))))
      have q2 : holdK a (a + b) = 0 := by (have hd : dep a (a + b) = (if (a + b) ≤ a then (a + b) else 2 * a - (a + b)) := rfl; by_cases hc : infl a (a + b); (focus (have hc' : 256 ≤ a ∧ 256 ≤ (a + b) := hc; first | (simp only [wordK, holdK, poolK, if_pos hc]; done) | (simp only [wordK, holdK, poolK, if_pos hc]; generalize dep a (a + b) = d at hd ⊢; (repeat' split) <;> (split at hd <;> omega)))); (focus (have hc' : ¬ (256 ≤ a ∧ 256 ≤ (a + b)) := hc; first | (simp only [wordK, holdK, poolK, if_neg hc]; done) | (simp only [wordK, holdK, poolK, if_neg hc]; generalize dep a (a + b) = d at hd ⊢; (repeat' split) <;> (split at hd <;> omega)))))
      have q3 : poolK a (a + b) = 0 := by (have hd : dep a (a + b) = (if (a + b) ≤ a then (a + b) else 2 * a - (a + b)) := rfl; by_cases hc : infl a (a + b); (focus (have hc' : 256 ≤ a ∧ 256 ≤ (a + b) := hc; first | (simp only [wordK, holdK, poolK, if_pos hc]; done) | (simp only [wordK, holdK, poolK, if_pos hc]; generalize dep a (a + b) = d at hd ⊢; (repeat' split) <;> (split at hd <;> omega)))); (focus (have hc' : ¬ (256 ≤ a ∧ 256 ≤ (a + b)) := hc; first | (simp only [wordK, holdK, poolK, if_neg hc]; done) | (simp only [wordK, holdK, poolK, if_neg hc]; generalize dep a (a + b) = d at hd ⊢; (repeat' split) <;> (split at hd <;> omega)))))
      have f : AsmV ieDA v arr := by
        rw [ieDA_eq]
        refine AsmV.append (bitsAt_ok (ve_ok (T.u20.trans q1) (T.u21.trans q2) (T.u22.trans q3) (T.u31.trans (show a - b = 0 by omega))) ieDb_all) ?_
        unfold ieDl
        exact asmV_pair (fEt T.e5 (addS T.e2 T.e3 (by omega)) rfl) (asmV_pair (fEt litS hb31 (by omega)) (asmV_pair (fGtf T.e2 T.e3 (by omega)) AsmV.nil))
      exact ((ieD0_lead f T.bn).at f).seq (((ieD1_lead f T.bn).at f).seq ((ieD2_lead f T.bn).at f))
theorem id_leads : Leads Tryz.prog body3 3 .ret 0 ⟨id0T, id0L, 0, [], v, arr⟩ ⟨ieA2T, ieA2L, 0, [], v, arr⟩ := by
  have sm := T.qv.sm
  have T2 := T.nV (a + b)
  have f : AsmV idxA (Sx.nV v (a + b)) arr := by rw [idxA_eq]; exact AsmV.append AsmV.nil (idxl_ok (m := a + b) T2.qv rfl rfl)
  have o : Leads Tryz.prog (.loop idB) 3 (.exit 0) 0 ⟨id10T, id10L, 8, [], v, arr⟩ ⟨idx1T, idx1L, 8, [], Sx.nV v (a + b), arr⟩ :=
    ((id_rounds T (a + b) (Nat.le_refl _)).trans (.is (Imp.facts f))).out ((idx_out f T.bn).post (Imp.facts AsmV.nil)) (by intro h; cases h)
  have e : Leads Tryz.prog (.seq idc11 (.seq idc12 .ret)) 3 .ret 0 ⟨idx1T, idx1L, 8, [], Sx.nV v (a + b), arr⟩ ⟨ieA2T, ieA2L, 0, [], v, arr⟩ :=
    (end_leads T2).post (Imp.ren end_ren eqV_end rowsV_end AsmV.nil)
  have p7 : AsmV id7A v arr := topP_to ⟨a, b, T⟩ (id7AF_ok T)
  have p9 : AsmV id9A v arr := topP_to ⟨a, b, T⟩ AsmV.nil
  exact ((id1_lead AsmV.nil T.bn).at AsmV.nil).seq ((((id2_lead knW AsmV.nil T.bn).at AsmV.nil).seq ((id3_lead AsmV.nil T.bn).at AsmV.nil)).seq
    (((id4_lead AsmV.nil T.bn).at AsmV.nil).seq (((id5_lead (id5A_ok T) T.bn).at (id5A_ok T)).seq (((id6_lead (id6A_ok T) T.bn).at (id6A_ok T)).seq
    ((((id7_lead knM p7 T.bn).at p7).seq ((id8_lead AsmV.nil T.bn).at AsmV.nil)).seq (((id9_lead knR p9 T.bn).at p9).seq
    ((((id10_lead AsmV.nil T.bn).at AsmV.nil).seq o.block).seq e)))))))
end
noncomputable def tpA : Asm := [((.prop TopP), true)]
theorem id_call : CallTo Tryz.prog tpA 3 [.int .u16 (.var .u16 0), .int .u16 (.var .u16 1)] (mkG id0L 0) (.bool (.lit true)) (mkG ieA2L 0) :=
  CallTo.code tabOK (body := body3) (res := [.tmp q4]) (l := [.bool (.lit true)]) (by kernel_rfl)
    (Leads.to fun v arr h => ⟨⟨id0T, id0L, 0, tpA, v, arr⟩, ⟨ieA2T, ieA2L, 0, tpA, v, arr⟩, ⟨rfl, rfl, rfl, rfl, rfl⟩, ⟨rfl, rfl, rfl, rfl, rfl⟩, by
      obtain ⟨a, b, T⟩ := topP_of h
      exact .pre (Imp.facts AsmV.nil) ((id_leads T).post (Imp.facts h))⟩) (fun i h => by cases h) (by kernel_rfl)
end Go.Sx
/-
  InflateDeep returns true, whatever its two numbers.
-/
namespace Go.Proofs.YtjbigdomdhgdgaaGreat.inflateDeep
open Go.ChangeShapes Go.WideShapes Go.ChangeAt Go.RowKit Go.Sx
def topV (i o : Nat) : Nat → Nat
  | 0 => i
  | 1 => o
  | 2 => aOf i
  | 3 => bOf i o
  | 5 => aOf i + bOf i o
  | 14 => 20 * (aOf i + bOf i o)
  | 20 => wordK (aOf i) (aOf i + bOf i o)
  | 21 => holdK (aOf i) (aOf i + bOf i o)
  | 22 => poolK (aOf i) (aOf i + bOf i o)
  | 23 => iK (aOf i) (aOf i + bOf i o)
  | 24 => 3 * (aOf i + bOf i o)
  | 31 => aOf i - bOf i o
  | _ => 0
def topArr (i : Nat) : Nat → Nat → Nat → Nat
  | 1 => fun c q => callsA (aOf i) c q
  | 6 => fun c q => if q < 10000 then logA (aOf i) c q else 0
  | _ => fun _ _ => 0
theorem top_ok {i o : Nat} (hi : i < 65536) (ho : o < 65536) : TopP (topV i o) (topArr i) := by
  refine ⟨aOf i, bOf i o, ?_, ?_, rfl, rfl, rfl, rfl, rfl, rfl, rfl, rfl, rfl, rfl, fun _ _ => rfl, ?_, fun _ _ => rfl, fun _ _ => rfl, ?_⟩
  · show aOf i = aOf (i % 65536)
    rw [Nat.mod_eq_of_lt hi]
  · show bOf i o = bOf (i % 65536) (o % 65536)
    rw [Nat.mod_eq_of_lt hi, Nat.mod_eq_of_lt ho]
  · intro c q hq
    show (if q < 10000 then logA (aOf i) c q else 0) = _
    rw [if_pos hq]
  · intro j c q
    unfold topArr
    split
    · exact Nat.lt_of_le_of_lt (callsA_le _ _ _) (by decide)
    · have h : (if q < 10000 then logA (aOf i) c q else 0) < 10000 := by
        unfold logA
        (repeat' split) <;> omega
      exact Nat.lt_of_lt_of_le h (by decide)
    · exact Nat.two_pow_pos 64
def topE (i o : Nat) : Env := { blk := fun _ => none, v := topV i o, arr := topArr i, nx := 0 }
theorem kept_of {W W' : World} (K : Keep (fun c => W.heap.size ≤ c) W W') (may : MemPlace → Prop) : W.keptBut W' may := by
  refine ⟨K.os, K.output, fun i hi => ?_⟩
  rw [K.same i hi (Nat.not_le.2 hi)]
  exact (World.keptBut_refl W may).2.2 i hi
theorem own : ownKnob Tryz.prog.godebug = none := by kernel_rfl
theorem walk (a0 : Int) (a1 : Int) (w0 : (Lit.int .u16 a0).wf = true) (w1 : (Lit.int .u16 a1).wf = true) (w : World) :
    Calls Tryz.prog 3 #[.int .u16 a0, .int .u16 a1] w fun e w' => e = .returned (.bool true) ∧ Keep (fun c => w.heap.size ≤ c) w w' := by
  have hx : ∀ {n : Int}, (Lit.int .u16 n).wf = true → n.toNat < 65536 ∧ (n.toNat : Int) = n := by
    intro n h
    have h' : IntKind.u16.min ≤ n ∧ n ≤ IntKind.u16.max := by simpa [Lit.wf] using h
    have h1 : IntKind.u16.min = 0 := rfl
    have h2 : IntKind.u16.max = 65535 := rfl
    omega
  obtain ⟨b0, e0⟩ := hx w0
  obtain ⟨b1, e1⟩ := hx w1
  have hA : AsmOK (topE a0.toNat a1.toNat) tpA := AsmV.ok (topP_to (top_ok b0 b1) (asmV_nil.2 trivial))
  have hS : Sim Tryz.prog (fun c => w.heap.size ≤ c) (topE a0.toNat a1.toNat) (mkG id0L 0) w :=
    ⟨fun b h => absurd rfl h, fun b b' c n n' _ h => absurd rfl h, fun _ _ => rfl, fun _ h => h, rfl⟩
  have hV : VRs (topE a0.toNat a1.toNat) [.int .u16 (.var .u16 0), .int .u16 (.var .u16 1)] (#[.int .u16 a0, .int .u16 a1] : Array Value).toList := by
    refine ⟨⟨?_, ?_⟩, ⟨?_, ?_⟩, trivial⟩
    · show Value.int .u16 a0 = .int .u16 (Int.ofNat (a0.toNat % 65536))
      rw [Nat.mod_eq_of_lt b0, show Int.ofNat a0.toNat = a0 from e0]
    · exact Nat.mod_lt _ (by decide)
    · show Value.int .u16 a1 = .int .u16 (Int.ofNat (a1.toNat % 65536))
      rw [Nat.mod_eq_of_lt b1, show Int.ofNat a1.toNat = a1 from e1]
    · exact Nat.mod_lt _ (by decide)
  obtain ⟨e', x, W', _, hr, _, hK, hC⟩ := id_call hA hS hV
  have hx : x = .bool true := hr
  subst hx
  rcases hC with hC | ⟨_, h2⟩
  · exfalso
    have hE : (callFunc 3 #[.int .u16 a0, .int .u16 a1]).run Tryz.prog w = .ok (.enter 3 #[.int .u16 a0, .int .u16 a1]) w := by
      have hn : ¬Tryz.f3.name = "runtime.NumGoroutine" := fun h => by
        have h1 : (Tryz.f3.name == "runtime.NumGoroutine") = false := by kernel_rfl
        rw [h] at h1
        simp at h1
      have hb : ¬Tryz.f3.body = none := fun h => by
        have h1 : Tryz.f3.body.isNone = false := by kernel_rfl
        rw [h] at h1
        cases h1
      simp [callFunc, Tryz.func3, hn, hb]
    rw [hE] at hC
    cases hC
  · intro cs
    obtain ⟨fr, s, f1, f2, f3, f4, fn, g1, g2⟩ := h2 .normal cs (.inl rfl)
    exact ⟨.returned (.bool true), W', fr, ⟨rfl, hK⟩, s, f1, f3, f4, f2, fn, by rw [f1]; exact g1, g2⟩
theorem post_ints {H : Type} {enc : TypeId × Value → H} {P : Program} {f : Func} {s : ChangeSpec} {apart fresh handsOn again : Bool} {W W' : World} {args : Array Value} {v : Value} {ds gs : List (DataW H)} {before : List MemPlace}
    (hW : DataW.Whole enc P f.params.toList s.vars apart W args.toList ds gs before)
    (hres : ∀ (b : Nat) (sp : Nat → Bool) (hd : Bool), DataW.TrodAll enc P W' b sp hd f.resultTypes.toList (v.resultList f.resultTypes.size) (s.fn H (ds ++ gs)).results [])
    (hargs : ∀ sp : Nat → Bool, (∀ p ∈ before, sp p.block = true) → DataW.TrodAll enc P W' 0 sp true f.params.toList args.toList (s.fn H (ds ++ gs)).args [])
    (hvars : ∀ sp : Nat → Bool, (∀ p ∈ before, sp p.block = true) → DataW.TrodVars enc P W' sp s.vars (s.fn H (ds ++ gs)).vars [])
    (hps : before = []) (hk : W.keptBut W' (· ∈ before))
    (hok : ∀ (j : Nat) (t : TypeId) (r : Value), f.resultTypes[j]? = some t → (v.resultList f.resultTypes.size)[j]? = some r → Value.okWide P W' .any 0 t r) :
    s.post enc P f apart fresh handsOn again W args v W' := by
  have hold : ∀ p ∈ before, (fun b => decide (b < W.heap.size)) p.block = true := fun p hp => by simpa using hW.lt p hp
  refine ⟨ds, gs, before, [], [], [], hW, hres _ _ _, hargs _ hold, hvars _ hold, World.keptBut_mono (fun p hp => ⟨hp, ?_⟩) hk, fun _ => ?_⟩
  · rw [hps] at hp
    cases hp
  · refine ⟨hok, _, _, ([] ++ []) ++ [], ⟨[] ++ [], [], trodAll_append (hargs _ (fun _ _ => rfl)) (hres _ _ _), hvars _ (fun _ _ => rfl), rfl, ?_, ?_⟩, ?_⟩
    · intro b off hp
      simp at hp
    · intro _
      simp
    · intro p hp _
      simp at hp
set_option maxRecDepth 100000 in
theorem lifted (os : Os) (started : os.Started) (H : Type) (enc : TypeId × Value → H) :
    ReturnsInHanded {} Tryz.checked os 3 .any (Rows.inflateDeepSpec.pre6 enc Tryz.prog Tryz.f3 Rows.inflateDeepRow.domain false) (Rows.inflateDeepSpec.post enc Tryz.prog Tryz.f3 false true false false) := by
  refine returnsInHanded_of_change (C := Tryz.checked) own started (by kernel_rfl) Tryz.func3
    (ChangeSpec.witness6 (enc := enc) (C := Tryz.checked) false ⟨#[], #[.int .u16 0, .int .u16 0], []⟩ 8 (by kernel_rfl) (by kernel_rfl) (by kernel_rfl) (by kernel_rfl)) ?_
  intro W base args ds gs before hval0 hW hcnd _
  have hval : ∀ (j : Nat) t v, Tryz.f3.params[j]? = some t → args[j]? = some v → Value.okWide Tryz.prog W .any base t v := hval0
  have hW' := hW
  obtain ⟨p, q, hA0, hV, rfl, hfz, hnd⟩ := hW
  have hA : DataW.TrodAll enc Tryz.prog W 0 (fun _ => true) true Tryz.f3.params.toList args.toList ds p := hA0
  rw [Tryz.params3] at hA hval
  obtain ⟨v0, vs0, d0, ds0, p0, q0, hargs, rfl, rfl, h0, r0⟩ := trodAll_cons hA
  obtain ⟨v1, vs1, d1, ds1, p1, q1, rfl, rfl, rfl, h1, r1⟩ := trodAll_cons r0
  obtain ⟨rfl, rfl, rfl⟩ := trodAll_nil r1
  obtain rfl : args = #[v0, v1] := by cases args; simp_all
  obtain ⟨rfl, rfl⟩ := trodVars_none hV
  obtain ⟨a0, rfl, rfl, rfl, w0⟩ := open_int Tryz.underlying22 (hval 0 22 v0 rfl rfl) h0
  obtain ⟨a1, rfl, rfl, rfl, w1⟩ := open_int Tryz.underlying22 (hval 1 22 v1 rfl rfl) h1
  clear hA0 hval0
  simp only [List.append_nil] at hW'
  refine (walk a0 a1 w0 w1 W).mono fun e W' ⟨he, hg⟩ => ?_
  subst he
  exact ⟨_, rfl, post_ints hW' (fun _ _ _ => (trodAll_cons_mk (shut_bool Tryz.underlying4 _) trodAll_mk0)) (fun sp _ => (trodAll_cons_mk (shut_int Tryz.underlying22 w0) (trodAll_cons_mk (shut_int Tryz.underlying22 w1) trodAll_mk0))) (fun _ _ => rfl) rfl
    (kept_of hg _) (ok_one (by kernel_rfl) rfl (okWide_bool_mk Tryz.underlying4 _))⟩

theorem over : Rows.inflateDeepRow.holds Tryz.pinned (OpenSpec.ofChange Rows.inflateDeepSpec) :=
  OpenClaim.holds_of_wide 3 Tryz.f3 rfl rfl rfl rfl rfl rfl rfl ⟨rfl, rfl, rfl, rfl, rfl⟩ rfl rfl rfl rfl rfl (by kernel_rfl) Tryz.func3 (by kernel_rfl)
    (of_decide_eq_true (by kernel_rfl)) (by unfold Func.isWrapper; first | (rw [if_pos (by decide +kernel)]; kernel_rfl) | (rw [if_neg (by decide +kernel)]; exact ⟨rfl, rfl⟩))
    (fun os started H enc _ => lifted os started H enc)

theorem proved : Rows.InflateDeepSaid :=
  over
end Go.Proofs.YtjbigdomdhgdgaaGreat.inflateDeep
