/-
  What the variables are.
-/
import Derived.Test.YtjbigdomdhgdgaaGreatA5
import Derived.Test.YtjbigdomdhgdgaaGreatB2
import Derived.KernelRfl
set_option linter.unusedSimpArgs false
set_option linter.unusedVariables false
set_option linter.unusedSectionVars false
namespace Go.Sx
def aOf (i : Nat) : Nat := 1 + i % 600
def bOf (i o : Nat) : Nat := o % (aOf i + 1)
/-- How deep the thread is, ahead of the call k. -/
def dep (a k : Nat) : Nat := if k ≤ a then k else 2 * a - k
/-- Has the object a monitor by then? -/
def infl (a k : Nat) : Prop := 256 ≤ a ∧ 256 ≤ k
instance (a k : Nat) : Decidable (infl a k) := by unfold infl; exact inferInstance
def wordK (a k : Nat) : Nat := if infl a k then 76 else if dep a k = 0 then 73 else 75 + dep a k * 4398046511104
def holdK (a k : Nat) : Nat := if infl a k then (if dep a k = 0 then 0 else 4294967296 + dep a k) else 0
def poolK (a k : Nat) : Nat := if infl a k then 0 else 1
/-- How many steps the call k takes. -/
def dK (a k : Nat) : Nat := if k < a then (if k < 255 then 4 else if k = 255 then 20 else 9) else if a ≤ 255 then 4 else if k + 1 < 2 * a then 9 else 10
def iK (a : Nat) : Nat → Nat
  | 0 => 0
  | k + 1 => iK a k + dK a k
def callsA (a c q : Nat) : Nat := if c = 0 then (if q < a then 0 else 1) else 0
def logA (a c q : Nat) : Nat :=
  if q % 3 = 0 then (if c = 2 then q / 3 else if c = 3 then (if q / 3 < a then 0 else 1) else 0)
  else if q % 3 = 1 then (if c = 0 then 1 else if c = 3 then (if q / 3 < a then 0 else 1) else 0)
  else (if c = 0 then 2 else if c = 2 then q / 3 else 0)
theorem dK_le (a k : Nat) : dK a k ≤ 20 := by
  unfold dK
  (repeat' split) <;> omega
theorem iK_le (a : Nat) : ∀ k, iK a k ≤ 20 * k
  | 0 => Nat.le_refl _
  | k + 1 => by have := iK_le a k; have := dK_le a k; unfold iK; omega
end Go.Sx
namespace Go.Sx
open Go Go.Proofs
noncomputable def dp0T : Tr AV := mkT [(0, .int .i64 (y 2)), (1, .int .i64 (y 3))]
def dp0L : List (Nat × AO) := [(0, c [i6 1, i6 2, i6 1, p 1, p 2, .int .i32 (.lit 0), .int .u32 (.lit 0), .slice0]), (1, c [.iface 174 (.slice 3 0 (.lit 18) (.known 18)), i6 5]), (2, c [.slice 4 0 (.lit 1) (.known 1)]), (3, c [u6 0, u6 1, u6 73, u6 134217721, u6 0, u6 0, u6 0, u6 0, u6 1, u6 0, u6 0, u6 0, u6 0, u6 0, u6 0, u6 0, u6 0, u6 0]), (4, c [.chan 5]), (5, .chan 1 [])]
def dpA : Asm := [((.cmp .eql .i64 (.bin .add .i64 (.conv .u16 .i64 (.bin .rem .u16 (.var .u16 0) (.lit 600))) (.lit 1)) (y 2)), true),
  ((.cmp .eql .i64 (.bin .add .i64 (y 2) (.lit 1)) (.lit 0)), false),
  ((.cmp .eql .i64 (.bin .rem .i64 (.conv .u16 .i64 (.var .u16 1)) (.bin .add .i64 (y 2) (.lit 1))) (y 3)), true)]
def dpc0 : XCode := .region [.op q4 (.mv (.con (.slice0)))]
def dpc1 : XCode := .region [.op q5 (.mv (.con (.slice0)))]
def dpc2 : XCode := .region [.op q6 (.mv (.con (i6 0)))]
def dpB1 : XCode := .seq (.seq (.region [.op q8 (.mv (.tmp q6)), .op q9 (.mv (.tmp q0)), .op q10 (.bin 0 .lss (.tmp q8) (.tmp q9))]) (.cond (.tmp q10) (.skip) (.exit 0))) (.seq (.block 1 (.region [.op q13 (.mv (.tmp q5)), .op q14 (.build [i6 0, i6 0, i6 0] [(0, 1, (.con (i6 0)))]), .op q15 (.buildSlice [i6 0, i6 0, i6 0] 1 [(0, 3, (.tmp q14))]), .op q16 (.append 3 24 (.tmp q13) (.tmp q15)), .op q5 (.mv (.tmp q16))])) (.region [.op q11 (.mv (.tmp q6)), .op q12 (.bin 0 .add (.tmp q11) (.con (i6 1))), .op q6 (.mv (.tmp q12))]))
def dpc3 : XCode := .region [.op q7 (.mv (.con (i6 0)))]
def dpB2 : XCode := .seq (.seq (.region [.op q17 (.mv (.tmp q7)), .op q18 (.mv (.tmp q1)), .op q19 (.bin 0 .lss (.tmp q17) (.tmp q18))]) (.cond (.tmp q19) (.skip) (.exit 2))) (.seq (.block 3 (.region [.op q22 (.mv (.tmp q5)), .op q23 (.build [i6 0, i6 0, i6 0] [(0, 1, (.con (i6 1)))]), .op q24 (.buildSlice [i6 0, i6 0, i6 0] 1 [(0, 3, (.tmp q23))]), .op q25 (.append 3 24 (.tmp q22) (.tmp q24)), .op q5 (.mv (.tmp q25))])) (.region [.op q20 (.mv (.tmp q7)), .op q21 (.bin 0 .add (.tmp q20) (.con (i6 1))), .op q7 (.mv (.tmp q21))]))
def dpc4 : XCode := .region [.op q26 (.mv (.tmp q5)), .op q4 (.mv (.tmp q26))]
noncomputable def dp1T : Tr AV := mkT [(0, .int .i64 (y 2)), (1, .int .i64 (y 3))]
def dp1L : List (Nat × AO) := [(0, c [i6 1, i6 2, i6 1, p 1, p 2, .int .i32 (.lit 0), .int .u32 (.lit 0), .slice0]), (1, c [.iface 174 (.slice 3 0 (.lit 18) (.known 18)), i6 5]), (2, c [.slice 4 0 (.lit 1) (.known 1)]), (3, c [u6 0, u6 1, u6 73, u6 134217721, u6 0, u6 0, u6 0, u6 0, u6 1, u6 0, u6 0, u6 0, u6 0, u6 0, u6 0, u6 0, u6 0, u6 0]), (4, c [.chan 5]), (5, .chan 1 [])]
theorem dp1k : stepOK dpA (stepChk (ev tab dpA 1000000) dpc0 8 .normal dp0T dp0L 6 [] 6 dp1T dp1L 6) = true := by kernel_rfl
theorem dp1_lead {v : Nat → Nat} {arr : Nat → Nat → Nat → Nat} (ha : AsmV dpA v arr) (hb : BndA arr) : Leads Tryz.prog dpc0 8 .normal 6 ⟨dp0T, dp0L, 6, dpA, v, arr⟩ ⟨dp1T, dp1L, 6, dpA, v, arr⟩ := Leads.same (snd dpA) dp1k ha hb
noncomputable def dp2T : Tr AV := mkT [(0, .int .i64 (y 2)), (1, .int .i64 (y 3)), (5, .slice0)]
def dp2L : List (Nat × AO) := [(0, c [i6 1, i6 2, i6 1, p 1, p 2, .int .i32 (.lit 0), .int .u32 (.lit 0), .slice0]), (1, c [.iface 174 (.slice 3 0 (.lit 18) (.known 18)), i6 5]), (2, c [.slice 4 0 (.lit 1) (.known 1)]), (3, c [u6 0, u6 1, u6 73, u6 134217721, u6 0, u6 0, u6 0, u6 0, u6 1, u6 0, u6 0, u6 0, u6 0, u6 0, u6 0, u6 0, u6 0, u6 0]), (4, c [.chan 5]), (5, .chan 1 [])]
theorem dp2k : stepOK dpA (stepChk (ev tab dpA 1000000) dpc1 8 .normal dp1T dp1L 6 [] 6 dp2T dp2L 6) = true := by kernel_rfl
theorem dp2_lead {v : Nat → Nat} {arr : Nat → Nat → Nat → Nat} (ha : AsmV dpA v arr) (hb : BndA arr) : Leads Tryz.prog dpc1 8 .normal 6 ⟨dp1T, dp1L, 6, dpA, v, arr⟩ ⟨dp2T, dp2L, 6, dpA, v, arr⟩ := Leads.same (snd dpA) dp2k ha hb
noncomputable def dp3T : Tr AV := mkT [(0, .int .i64 (y 2)), (1, .int .i64 (y 3)), (5, .slice0), (6, i6 0)]
def dp3L : List (Nat × AO) := [(0, c [i6 1, i6 2, i6 1, p 1, p 2, .int .i32 (.lit 0), .int .u32 (.lit 0), .slice0]), (1, c [.iface 174 (.slice 3 0 (.lit 18) (.known 18)), i6 5]), (2, c [.slice 4 0 (.lit 1) (.known 1)]), (3, c [u6 0, u6 1, u6 73, u6 134217721, u6 0, u6 0, u6 0, u6 0, u6 1, u6 0, u6 0, u6 0, u6 0, u6 0, u6 0, u6 0, u6 0, u6 0]), (4, c [.chan 5]), (5, .chan 1 [])]
theorem dp3k : stepOK dpA (stepChk (ev tab dpA 1000000) dpc2 8 .normal dp2T dp2L 6 [] 6 dp3T dp3L 6) = true := by kernel_rfl
theorem dp3_lead {v : Nat → Nat} {arr : Nat → Nat → Nat → Nat} (ha : AsmV dpA v arr) (hb : BndA arr) : Leads Tryz.prog dpc2 8 .normal 6 ⟨dp2T, dp2L, 6, dpA, v, arr⟩ ⟨dp3T, dp3L, 6, dpA, v, arr⟩ := Leads.same (snd dpA) dp3k ha hb
noncomputable def dpKT : Tr AV := mkT [(0, .int .i64 (y 2)), (1, .int .i64 (y 3)), (5, .slice 6 0 (y 4) (.room 3)), (6, .int .i64 (y 4))]
def dpKL : List (Nat × AO) := [(0, c [i6 1, i6 2, i6 1, p 1, p 2, .int .i32 (.lit 0), .int .u32 (.lit 0), .slice0]), (1, c [.iface 174 (.slice 3 0 (.lit 18) (.known 18)), i6 5]), (2, c [.slice 4 0 (.lit 1) (.known 1)]), (3, c [u6 0, u6 1, u6 73, u6 134217721, u6 0, u6 0, u6 0, u6 0, u6 1, u6 0, u6 0, u6 0, u6 0, u6 0, u6 0, u6 0, u6 0, u6 0]), (4, c [.chan 5]), (5, .chan 1 []), (6, .rows 1 [.i64, .i64, .i64] (y 4) [])]
def dpaA : Asm := [((.cmp .lss .i64 (.lit 0) (y 2)), true),
  ((.cmp .eql .i64 (.sel .i64 1 0 (.lit 0)) (.lit 0)), true),
  ((.cmp .eql .i64 (.sel .i64 1 1 (.lit 0)) (.lit 0)), true),
  ((.cmp .eql .i64 (.sel .i64 1 2 (.lit 0)) (.lit 0)), true)]
noncomputable def dpa1T : Tr AV := mkT [(0, .int .i64 (y 2)), (1, .int .i64 (y 3)), (5, .slice 6 0 (.lit 1) (.room 3)), (6, i6 1)]
def dpa1L : List (Nat × AO) := [(0, c [i6 1, i6 2, i6 1, p 1, p 2, .int .i32 (.lit 0), .int .u32 (.lit 0), .slice0]), (1, c [.iface 174 (.slice 3 0 (.lit 18) (.known 18)), i6 5]), (2, c [.slice 4 0 (.lit 1) (.known 1)]), (3, c [u6 0, u6 1, u6 73, u6 134217721, u6 0, u6 0, u6 0, u6 0, u6 1, u6 0, u6 0, u6 0, u6 0, u6 0, u6 0, u6 0, u6 0, u6 0]), (4, c [.chan 5]), (5, .chan 1 []), (6, .rows 1 [.i64, .i64, .i64] (.lit 1) [])]
theorem dpa1k : stepOK dpaA (stepChk (ev tab dpaA 1000000) dpB1 8 .normal dp3T dp3L 6 [(6, 7)] 6 dpa1T dpa1L 7) = true := by kernel_rfl
theorem dpa_run {v : Nat → Nat} {arr : Nat → Nat → Nat → Nat} (ha : AsmV dpaA v arr) (hb : BndA arr) : Rounds Tryz.prog dpB1 8 6 ⟨dp3T, dp3L, 6, dpaA, v, arr⟩ ⟨dpa1T, dpa1L, 7, dpaA, v, arr⟩ := by
  have h1 := Leads.same (fn := 8) (snd dpaA) dpa1k ha hb
  exact Rounds.one h1
def dparE : Eqs := [((y 2), (y 2)), ((y 3), (y 3)), ((y 4), (.lit 1)), ((y 4), (.lit 1))]
def dparR : List RowEq := [⟨1, [.i64, .i64, .i64], (y 4), 1, (.lit 1), []⟩]
theorem dpar_ren : seen [] 6 dpKT dpKL 7 dpa1T (mkG dpa1L 7) = some (dparE, dparR) := by kernel_rfl
def dpbA : Asm := [((.cmp .lss .i64 (y 4) (y 2)), true),
  ((.cmp .lss .u64 (y 4) (.lit 1048576)), true),
  ((.cmp .eql .i64 (.sel .i64 1 0 (y 4)) (.lit 0)), true),
  ((.cmp .eql .i64 (.sel .i64 1 1 (y 4)) (.lit 0)), true),
  ((.cmp .eql .i64 (.sel .i64 1 2 (y 4)) (.lit 0)), true)]
noncomputable def dpb1T : Tr AV := mkT [(0, .int .i64 (y 2)), (1, .int .i64 (y 3)), (5, .slice 6 0 (.bin .add .i64 (y 4) (.lit 1)) (.room 3)), (6, .int .i64 (.bin .add .i64 (y 4) (.lit 1)))]
def dpb1L : List (Nat × AO) := [(0, c [i6 1, i6 2, i6 1, p 1, p 2, .int .i32 (.lit 0), .int .u32 (.lit 0), .slice0]), (1, c [.iface 174 (.slice 3 0 (.lit 18) (.known 18)), i6 5]), (2, c [.slice 4 0 (.lit 1) (.known 1)]), (3, c [u6 0, u6 1, u6 73, u6 134217721, u6 0, u6 0, u6 0, u6 0, u6 1, u6 0, u6 0, u6 0, u6 0, u6 0, u6 0, u6 0, u6 0, u6 0]), (4, c [.chan 5]), (5, .chan 1 []), (6, .rows 1 [.i64, .i64, .i64] (.bin .add .i64 (y 4) (.lit 1)) [])]
theorem dpb1k : stepOK dpbA (stepChk (ev tab dpbA 1000000) dpB1 8 .normal dpKT dpKL 7 [(6, 8)] 6 dpb1T dpb1L 7) = true := by kernel_rfl
theorem dpb_run {v : Nat → Nat} {arr : Nat → Nat → Nat → Nat} (ha : AsmV dpbA v arr) (hb : BndA arr) : Rounds Tryz.prog dpB1 8 6 ⟨dpKT, dpKL, 7, dpbA, v, arr⟩ ⟨dpb1T, dpb1L, 7, dpbA, v, arr⟩ := by
  have h1 := Leads.same (fn := 8) (snd dpbA) dpb1k ha hb
  exact Rounds.one h1
def dpbrE : Eqs := [((y 2), (y 2)), ((y 3), (y 3)), ((y 4), (.bin .add .i64 (y 4) (.lit 1))), ((y 4), (.bin .add .i64 (y 4) (.lit 1)))]
def dpbrR : List RowEq := [⟨1, [.i64, .i64, .i64], (y 4), 1, (.bin .add .i64 (y 4) (.lit 1)), []⟩]
theorem dpbr_ren : seen [] 6 dpKT dpKL 7 dpb1T (mkG dpb1L 7) = some (dpbrE, dpbrR) := by kernel_rfl
def dpxA : Asm := [((.cmp .lss .i64 (y 4) (y 2)), false)]
noncomputable def dpx1T : Tr AV := mkT [(1, .int .i64 (y 3)), (5, .slice 6 0 (y 4) (.room 3))]
def dpx1L : List (Nat × AO) := [(0, c [i6 1, i6 2, i6 1, p 1, p 2, .int .i32 (.lit 0), .int .u32 (.lit 0), .slice0]), (1, c [.iface 174 (.slice 3 0 (.lit 18) (.known 18)), i6 5]), (2, c [.slice 4 0 (.lit 1) (.known 1)]), (3, c [u6 0, u6 1, u6 73, u6 134217721, u6 0, u6 0, u6 0, u6 0, u6 1, u6 0, u6 0, u6 0, u6 0, u6 0, u6 0, u6 0, u6 0, u6 0]), (4, c [.chan 5]), (5, .chan 1 []), (6, .rows 1 [.i64, .i64, .i64] (y 4) [])]
theorem dpx1k : stepOK dpxA (stepChk (ev tab dpxA 1000000) dpB1 8 (.exit 0) dpKT dpKL 7 [] 6 dpx1T dpx1L 7) = true := by kernel_rfl
theorem dpx_out {v : Nat → Nat} {arr : Nat → Nat → Nat → Nat} (ha : AsmV dpxA v arr) (hb : BndA arr) : Leads Tryz.prog dpB1 8 (.exit 0) 6 ⟨dpKT, dpKL, 7, dpxA, v, arr⟩ ⟨dpx1T, dpx1L, 7, dpxA, v, arr⟩ := by
  have h1 := Leads.same (fn := 8) (snd dpxA) dpx1k ha hb
  exact h1
noncomputable def dpMT : Tr AV := mkT [(1, .int .i64 (y 3)), (5, .slice 6 0 (y 2) (.room 3))]
def dpML : List (Nat × AO) := [(0, c [i6 1, i6 2, i6 1, p 1, p 2, .int .i32 (.lit 0), .int .u32 (.lit 0), .slice0]), (1, c [.iface 174 (.slice 3 0 (.lit 18) (.known 18)), i6 5]), (2, c [.slice 4 0 (.lit 1) (.known 1)]), (3, c [u6 0, u6 1, u6 73, u6 134217721, u6 0, u6 0, u6 0, u6 0, u6 1, u6 0, u6 0, u6 0, u6 0, u6 0, u6 0, u6 0, u6 0, u6 0]), (4, c [.chan 5]), (5, .chan 1 []), (6, .rows 1 [.i64, .i64, .i64] (y 2) [])]
def dpxrE : Eqs := [((y 3), (y 3)), ((y 2), (y 4))]
def dpxrR : List RowEq := [⟨1, [.i64, .i64, .i64], (y 2), 1, (y 4), []⟩]
theorem dpxr_ren : seen [] 6 dpMT dpML 7 dpx1T (mkG dpx1L 7) = some (dpxrE, dpxrR) := by kernel_rfl
noncomputable def dpM1T : Tr AV := mkT [(1, .int .i64 (y 3)), (5, .slice 6 0 (y 2) (.room 3)), (7, i6 0)]
def dpM1L : List (Nat × AO) := [(0, c [i6 1, i6 2, i6 1, p 1, p 2, .int .i32 (.lit 0), .int .u32 (.lit 0), .slice0]), (1, c [.iface 174 (.slice 3 0 (.lit 18) (.known 18)), i6 5]), (2, c [.slice 4 0 (.lit 1) (.known 1)]), (3, c [u6 0, u6 1, u6 73, u6 134217721, u6 0, u6 0, u6 0, u6 0, u6 1, u6 0, u6 0, u6 0, u6 0, u6 0, u6 0, u6 0, u6 0, u6 0]), (4, c [.chan 5]), (5, .chan 1 []), (6, .rows 1 [.i64, .i64, .i64] (y 2) [])]
theorem dpM1k : stepOK dpA (stepChk (ev tab dpA 1000000) dpc3 8 .normal dpMT dpML 7 [] 6 dpM1T dpM1L 7) = true := by kernel_rfl
theorem dpM1_lead {v : Nat → Nat} {arr : Nat → Nat → Nat → Nat} (ha : AsmV dpA v arr) (hb : BndA arr) : Leads Tryz.prog dpc3 8 .normal 6 ⟨dpMT, dpML, 7, dpA, v, arr⟩ ⟨dpM1T, dpM1L, 7, dpA, v, arr⟩ := Leads.same (snd dpA) dpM1k ha hb
noncomputable def dpLT : Tr AV := mkT [(1, .int .i64 (y 3)), (5, .slice 6 0 (y 25) (.room 3)), (7, .int .i64 (y 26))]
def dpLL : List (Nat × AO) := [(0, c [i6 1, i6 2, i6 1, p 1, p 2, .int .i32 (.lit 0), .int .u32 (.lit 0), .slice0]), (1, c [.iface 174 (.slice 3 0 (.lit 18) (.known 18)), i6 5]), (2, c [.slice 4 0 (.lit 1) (.known 1)]), (3, c [u6 0, u6 1, u6 73, u6 134217721, u6 0, u6 0, u6 0, u6 0, u6 1, u6 0, u6 0, u6 0, u6 0, u6 0, u6 0, u6 0, u6 0, u6 0]), (4, c [.chan 5]), (5, .chan 1 []), (6, .rows 1 [.i64, .i64, .i64] (y 25) [])]
def dpM1rE : Eqs := [((y 3), (y 3)), ((y 26), (.lit 0)), ((y 25), (y 2))]
def dpM1rR : List RowEq := [⟨1, [.i64, .i64, .i64], (y 25), 1, (y 2), []⟩]
theorem dpM1r_ren : seen [] 6 dpLT dpLL 7 dpM1T (mkG dpM1L 7) = some (dpM1rE, dpM1rR) := by kernel_rfl
def dpeA : Asm := [((.cmp .lss .i64 (y 26) (y 3)), true),
  ((.cmp .lss .u64 (y 25) (.lit 1048576)), true),
  ((.cmp .eql .i64 (.sel .i64 1 0 (y 25)) (.lit 1)), true),
  ((.cmp .eql .i64 (.sel .i64 1 1 (y 25)) (.lit 0)), true),
  ((.cmp .eql .i64 (.sel .i64 1 2 (y 25)) (.lit 0)), true)]
noncomputable def dpe1T : Tr AV := mkT [(1, .int .i64 (y 3)), (5, .slice 6 0 (.bin .add .i64 (y 25) (.lit 1)) (.room 3)), (7, .int .i64 (.bin .add .i64 (y 26) (.lit 1)))]
def dpe1L : List (Nat × AO) := [(0, c [i6 1, i6 2, i6 1, p 1, p 2, .int .i32 (.lit 0), .int .u32 (.lit 0), .slice0]), (1, c [.iface 174 (.slice 3 0 (.lit 18) (.known 18)), i6 5]), (2, c [.slice 4 0 (.lit 1) (.known 1)]), (3, c [u6 0, u6 1, u6 73, u6 134217721, u6 0, u6 0, u6 0, u6 0, u6 1, u6 0, u6 0, u6 0, u6 0, u6 0, u6 0, u6 0, u6 0, u6 0]), (4, c [.chan 5]), (5, .chan 1 []), (6, .rows 1 [.i64, .i64, .i64] (.bin .add .i64 (y 25) (.lit 1)) [])]
theorem dpe1k : stepOK dpeA (stepChk (ev tab dpeA 1000000) dpB2 8 .normal dpLT dpLL 7 [(6, 8)] 6 dpe1T dpe1L 7) = true := by kernel_rfl
theorem dpe_run {v : Nat → Nat} {arr : Nat → Nat → Nat → Nat} (ha : AsmV dpeA v arr) (hb : BndA arr) : Rounds Tryz.prog dpB2 8 6 ⟨dpLT, dpLL, 7, dpeA, v, arr⟩ ⟨dpe1T, dpe1L, 7, dpeA, v, arr⟩ := by
  have h1 := Leads.same (fn := 8) (snd dpeA) dpe1k ha hb
  exact Rounds.one h1
def dperE : Eqs := [((y 3), (y 3)), ((y 26), (.bin .add .i64 (y 26) (.lit 1))), ((y 25), (.bin .add .i64 (y 25) (.lit 1)))]
def dperR : List RowEq := [⟨1, [.i64, .i64, .i64], (y 25), 1, (.bin .add .i64 (y 25) (.lit 1)), []⟩]
theorem dper_ren : seen [] 6 dpLT dpLL 7 dpe1T (mkG dpe1L 7) = some (dperE, dperR) := by kernel_rfl
def dpzA : Asm := [((.cmp .lss .i64 (y 26) (y 3)), false)]
noncomputable def dpz1T : Tr AV := mkT [(5, .slice 6 0 (y 25) (.room 3))]
def dpz1L : List (Nat × AO) := [(0, c [i6 1, i6 2, i6 1, p 1, p 2, .int .i32 (.lit 0), .int .u32 (.lit 0), .slice0]), (1, c [.iface 174 (.slice 3 0 (.lit 18) (.known 18)), i6 5]), (2, c [.slice 4 0 (.lit 1) (.known 1)]), (3, c [u6 0, u6 1, u6 73, u6 134217721, u6 0, u6 0, u6 0, u6 0, u6 1, u6 0, u6 0, u6 0, u6 0, u6 0, u6 0, u6 0, u6 0, u6 0]), (4, c [.chan 5]), (5, .chan 1 []), (6, .rows 1 [.i64, .i64, .i64] (y 25) [])]
theorem dpz1k : stepOK dpzA (stepChk (ev tab dpzA 1000000) dpB2 8 (.exit 2) dpLT dpLL 7 [] 6 dpz1T dpz1L 7) = true := by kernel_rfl
theorem dpz_out {v : Nat → Nat} {arr : Nat → Nat → Nat → Nat} (ha : AsmV dpzA v arr) (hb : BndA arr) : Leads Tryz.prog dpB2 8 (.exit 2) 6 ⟨dpLT, dpLL, 7, dpzA, v, arr⟩ ⟨dpz1T, dpz1L, 7, dpzA, v, arr⟩ := by
  have h1 := Leads.same (fn := 8) (snd dpzA) dpz1k ha hb
  exact h1
noncomputable def dpNT : Tr AV := mkT [(5, .slice 6 0 (y 5) (.room 3))]
def dpNL : List (Nat × AO) := [(0, c [i6 1, i6 2, i6 1, p 1, p 2, .int .i32 (.lit 0), .int .u32 (.lit 0), .slice0]), (1, c [.iface 174 (.slice 3 0 (.lit 18) (.known 18)), i6 5]), (2, c [.slice 4 0 (.lit 1) (.known 1)]), (3, c [u6 0, u6 1, u6 73, u6 134217721, u6 0, u6 0, u6 0, u6 0, u6 1, u6 0, u6 0, u6 0, u6 0, u6 0, u6 0, u6 0, u6 0, u6 0]), (4, c [.chan 5]), (5, .chan 1 []), (6, .rows 1 [.i64, .i64, .i64] (y 5) [])]
def dpzrE : Eqs := [((y 5), (y 25))]
def dpzrR : List RowEq := [⟨1, [.i64, .i64, .i64], (y 5), 1, (y 25), []⟩]
theorem dpzr_ren : seen [] 6 dpNT dpNL 7 dpz1T (mkG dpz1L 7) = some (dpzrE, dpzrR) := by kernel_rfl
noncomputable def dpN1T : Tr AV := mkT [(4, .slice 6 0 (y 5) (.room 3))]
def dpN1L : List (Nat × AO) := [(0, c [i6 1, i6 2, i6 1, p 1, p 2, .int .i32 (.lit 0), .int .u32 (.lit 0), .slice0]), (1, c [.iface 174 (.slice 3 0 (.lit 18) (.known 18)), i6 5]), (2, c [.slice 4 0 (.lit 1) (.known 1)]), (3, c [u6 0, u6 1, u6 73, u6 134217721, u6 0, u6 0, u6 0, u6 0, u6 1, u6 0, u6 0, u6 0, u6 0, u6 0, u6 0, u6 0, u6 0, u6 0]), (4, c [.chan 5]), (5, .chan 1 []), (6, .rows 1 [.i64, .i64, .i64] (y 5) [])]
theorem dpN1k : stepOK dpA (stepChk (ev tab dpA 1000000) dpc4 8 .normal dpNT dpNL 7 [] 6 dpN1T dpN1L 7) = true := by kernel_rfl
theorem dpN1_lead {v : Nat → Nat} {arr : Nat → Nat → Nat → Nat} (ha : AsmV dpA v arr) (hb : BndA arr) : Leads Tryz.prog dpc4 8 .normal 6 ⟨dpNT, dpNL, 7, dpA, v, arr⟩ ⟨dpN1T, dpN1L, 7, dpA, v, arr⟩ := Leads.same (snd dpA) dpN1k ha hb
noncomputable def dpN2T : Tr AV := mkT [(4, .slice 6 0 (y 5) (.room 3))]
def dpN2L : List (Nat × AO) := [(0, c [i6 1, i6 2, i6 1, p 1, p 2, .int .i32 (.lit 0), .int .u32 (.lit 0), .slice0]), (1, c [.iface 174 (.slice 3 0 (.lit 18) (.known 18)), i6 5]), (2, c [.slice 4 0 (.lit 1) (.known 1)]), (3, c [u6 0, u6 1, u6 73, u6 134217721, u6 0, u6 0, u6 0, u6 0, u6 1, u6 0, u6 0, u6 0, u6 0, u6 0, u6 0, u6 0, u6 0, u6 0]), (4, c [.chan 5]), (5, .chan 1 []), (6, .rows 1 [.i64, .i64, .i64] (y 5) [])]
theorem dpN2k : stepOK dpA (stepChk (ev tab dpA 1000000) .ret 8 .ret dpN1T dpN1L 7 [] 6 dpN2T dpN2L 7) = true := by kernel_rfl
theorem dpN2_lead {v : Nat → Nat} {arr : Nat → Nat → Nat → Nat} (ha : AsmV dpA v arr) (hb : BndA arr) : Leads Tryz.prog .ret 8 .ret 6 ⟨dpN1T, dpN1L, 7, dpA, v, arr⟩ ⟨dpN2T, dpN2L, 7, dpA, v, arr⟩ := Leads.same (snd dpA) dpN2k ha hb
end Go.Sx
/-
  Deep(a, b).
-/
namespace Go.Sx
open Go Go.Proofs

theorem m64 : md .i64 = 18446744073709551616 := rfl
section
variable {v : Nat → Nat} {arr : Nat → Nat → Nat → Nat} {a b : Nat}
def vAt (v : Nat → Nat) (j x : Nat) : Nat → Nat := fun i => if i = j then x else v i
theorem vAt_same (v : Nat → Nat) (j x : Nat) : vAt v j x j = x := if_pos rfl
theorem vAt_ne (v : Nat → Nat) {j x i : Nat} (h : i ≠ j) : vAt v j x i = v i := if_neg h

theorem deep_leads (h2 : v 2 = a) (h3 : v 3 = b) (h5 : v 5 = a + b) (ha1 : 1 ≤ a) (ha : a ≤ 600) (hb : b ≤ 600) (harr : ∀ c q, arr 1 c q = callsA a c q) (hbn : BndA arr) (hA : AsmV dpA v arr) {asm : Asm} (hasm : AsmV asm v arr) :
    Leads Tryz.prog (.seq dpc0 (.seq dpc1 (.seq (.seq dpc2 (.block 0 (.loop dpB1))) (.seq (.seq dpc3 (.block 2 (.loop dpB2))) (.seq dpc4 .ret))))) 8 .ret 6 ⟨dp0T, dp0L, 6, asm, v, arr⟩ ⟨dpN2T, dpN2L, 7, asm, v, arr⟩ := by
  -- the first loop
  have r1 : ∀ k, 1 ≤ k → k ≤ a → Rounds Tryz.prog dpB1 8 6 ⟨dp3T, dp3L, 6, dpA, v, arr⟩ ⟨dpKT, dpKL, 7, [], vAt v 4 k, arr⟩ := by
    have r0 : Rounds Tryz.prog dpB1 8 6 ⟨dp3T, dp3L, 6, dpA, v, arr⟩ ⟨dpKT, dpKL, 7, [], vAt v 4 1, arr⟩ := by
      have f : AsmV dpaA v arr := by
        simp only [dpaA, asmV_cons, asmV_nil, and_true, SB.evv, SE.evv, y, h2, m64, harr]
        refine ⟨?_, ?_, ?_, ?_⟩
        · rw [lss_t (by omega) (by omega)]; omega
        all_goals (simp [cmpN, callsA]; try (first | omega | (split <;> omega)))
      refine .imp (Imp.facts f) ((dpa_run f hbn).trans (.is (Imp.ren dpar_ren ?_ ?_ (asmV_nil.2 trivial))))
      · simp only [dparE, eqsV_cons, eqsV_nil, and_true, SE.evv, y]
        simp [vAt, m64]
      · simp only [dparR, rowsV_cons, rowsV_nil, and_true]
        exact RowEq.keep (by simp [SE.evv, y, vAt, m64]) (by simp [SE.evv, y, vAt, m64])
    intro k
    induction k with
    | zero => intro h; omega
    | succ k ih =>
      intro _ hka
      by_cases hk0 : k = 0
      · subst hk0; exact r0
      have f : AsmV dpbA (vAt v 4 k) arr := by
        simp only [dpbA, asmV_cons, asmV_nil, and_true, SB.evv, SE.evv, y, m64, harr, vAt_same, vAt_ne v (show (2 : Nat) ≠ 4 by decide), h2]
        refine ⟨?_, ?_, ?_, ?_, ?_⟩
        · rw [lss_t (by omega) (by omega)]; omega
        · simp only [cmpN, bias, sgn, cond_false, Bool.not_eq_true', ble_false]; omega
        all_goals (simp [cmpN, callsA]; try (first | omega | (split <;> omega)))
      refine (ih (by omega) (by omega)).trans (.imp (Imp.facts f) ((dpb_run f hbn).trans (.is (Imp.ren dpbr_ren ?_ ?_ (asmV_nil.2 trivial)))))
      · simp only [dpbrE, eqsV_cons, eqsV_nil, and_true, SE.evv, y, opN, m64]
        simp [vAt]
      · simp only [dpbrR, rowsV_cons, rowsV_nil, and_true]
        exact RowEq.keep (by simp [SE.evv, y, vAt, m64, opN]) (by simp only [SE.evv, y, vAt_same, m64]; omega)
  have fx : AsmV dpxA (vAt v 4 a) arr := by
    simp only [dpxA, asmV_cons, asmV_nil, and_true, SB.evv, SE.evv, y, m64, vAt_same, vAt_ne v (show (2 : Nat) ≠ 4 by decide), h2]
    rw [lss_f (by omega) (by omega)]; omega
  have o1 : Leads Tryz.prog (.loop dpB1) 8 (.exit 0) 6 ⟨dp3T, dp3L, 6, dpA, v, arr⟩ ⟨dpMT, dpML, 7, dpA, v, arr⟩ := by
    refine ((r1 a ha1 (Nat.le_refl _)).trans (.is (Imp.facts fx))).out ((dpx_out fx hbn).post (Imp.ren dpxr_ren ?_ ?_ hA)) (by intro h; cases h)
    · simp only [dpxrE, eqsV_cons, eqsV_nil, and_true, SE.evv, y, vAt_same, vAt_ne v (show (3 : Nat) ≠ 4 by decide), h2]
    · simp only [dpxrR, rowsV_cons, rowsV_nil, and_true]
      exact RowEq.keep (by simp only [SE.evv, y, vAt_same, h2]) (by simp only [SE.evv, y, h2, m64]; omega)
  -- the second loop
  have r2 : ∀ k, k ≤ b → Rounds Tryz.prog dpB2 8 6 ⟨dpM1T, dpM1L, 7, dpA, v, arr⟩ ⟨dpLT, dpLL, 7, [], vAt (vAt v 25 (a + k)) 26 k, arr⟩ := by
    intro k
    induction k with
    | zero =>
      intro _
      refine .is (Imp.ren dpM1r_ren ?_ ?_ (asmV_nil.2 trivial))
      · simp only [dpM1rE, eqsV_cons, eqsV_nil, and_true, SE.evv, y]
        simp [vAt, m64, h2]
      · simp only [dpM1rR, rowsV_cons, rowsV_nil, and_true]
        exact RowEq.keep (by simp [SE.evv, y, vAt, h2]) (by simp [SE.evv, y, vAt, m64]; omega)
    | succ k ih =>
      intro hkb
      have f : AsmV dpeA (vAt (vAt v 25 (a + k)) 26 k) arr := by
        simp only [dpeA, asmV_cons, asmV_nil, and_true, SB.evv, SE.evv, y, m64, harr, vAt_same, vAt_ne _ (show (25 : Nat) ≠ 26 by decide), vAt_ne _ (show (3 : Nat) ≠ 26 by decide), vAt_ne _ (show (3 : Nat) ≠ 25 by decide), h3]
        refine ⟨?_, ?_, ?_, ?_, ?_⟩
        · rw [lss_t (by omega) (by omega)]; omega
        · simp only [cmpN, bias, sgn, cond_false, Bool.not_eq_true', ble_false]; omega
        all_goals (simp [cmpN, callsA]; try (first | omega | (split <;> omega)))
      refine (ih (by omega)).trans (.imp (Imp.facts f) ((dpe_run f hbn).trans (.is (Imp.ren dper_ren ?_ ?_ (asmV_nil.2 trivial)))))
      · simp only [dperE, eqsV_cons, eqsV_nil, and_true, SE.evv, y, opN, m64]
        simp [vAt]; omega
      · simp only [dperR, rowsV_cons, rowsV_nil, and_true]
        exact RowEq.keep (by simp [SE.evv, y, vAt, m64, opN]; omega) (by simp [SE.evv, y, vAt, m64]; omega)
  have fz : AsmV dpzA (vAt (vAt v 25 (a + b)) 26 b) arr := by
    simp only [dpzA, asmV_cons, asmV_nil, and_true, SB.evv, SE.evv, y, m64, vAt_same, vAt_ne _ (show (3 : Nat) ≠ 26 by decide), vAt_ne _ (show (3 : Nat) ≠ 25 by decide), h3]
    rw [lss_f (by omega) (by omega)]; omega
  have o2 : Leads Tryz.prog (.loop dpB2) 8 (.exit 2) 6 ⟨dpM1T, dpM1L, 7, dpA, v, arr⟩ ⟨dpNT, dpNL, 7, dpA, v, arr⟩ := by
    refine ((r2 b (Nat.le_refl _)).trans (.is (Imp.facts fz))).out ((dpz_out fz hbn).post (Imp.ren dpzr_ren ?_ ?_ hA)) (by intro h; cases h)
    · simp only [dpzrE, eqsV_cons, eqsV_nil, and_true, SE.evv, y, vAt_same, vAt_ne _ (show (25 : Nat) ≠ 26 by decide), h5]
    · simp only [dpzrR, rowsV_cons, rowsV_nil, and_true]
      exact RowEq.keep (by simp only [SE.evv, y, vAt_same, vAt_ne _ (show (25 : Nat) ≠ 26 by decide), h5]) (by simp only [SE.evv, y, h5, m64]; omega)
  exact .pre (Imp.facts hA) (((dp1_lead hA hbn).seq ((dp2_lead hA hbn).seq (((dp3_lead hA hbn).seq o1.block).seq (((dpM1_lead hA hbn).seq o2.block).seq ((dpN1_lead hA hbn).seq (dpN2_lead hA hbn)))))).post (Imp.facts hasm))
end
end Go.Sx
namespace Go.Sx
open Go Go.Proofs
def tnB : XCode := .seq (.seq (.region [.op q6 (.mv (.tmp q5)), .op q7 (.mv (.tmp q1)), .op q8 (.bin 0 .lss (.tmp q6) (.tmp q7)), .op q9 (.mv (.tmp q8)), .gop q9 true q10 (.mv (.tmp q0)), .gop q9 true q11 (.callF 15 [(.tmp q10)]), .gop q9 true q12 (.not (.tmp q11)), .op q13 (.pick (.tmp q9) (.tmp q12) (.con (.bool (.lit false))))]) (.cond (.tmp q13) (.skip) (.exit 0))) (.seq (.block 1 (.region [.op q16 (.mv (.tmp q0)), .op q17 (.mv (.tmp q5)), .op q18 (.mv (.tmp q0)), .op q19 (.callF 17 [(.tmp q18)]), .op q20 (.max2 (.con (i6 1)) (.tmp q19)), .op q21 (.bin 0 .rem (.tmp q17) (.tmp q20)), .op q22 (.build [i6 0, i6 0] [(0, 1, (.tmp q21))]), .op q23 (.callF 16 [(.tmp q16), (.tmp q22)])])) (.region [.op q14 (.mv (.tmp q5)), .op q15 (.bin 0 .add (.tmp q14) (.con (i6 1))), .op q5 (.mv (.tmp q15))]))
def tnc0 : XCode := .region [.op q4 (.mv (.con (.bool (.lit false))))]
def tnc1 : XCode := .region [.op q5 (.mv (.con (i6 0)))]
def tnc2 : XCode := .region [.op q24 (.mv (.tmp q0)), .op q25 (.callF 15 [(.tmp q24)]), .op q4 (.mv (.tmp q25))]
noncomputable def tn0T : Tr AV := mkT [(0, p 13), (1, .int .i64 (.bin .add .i64 (y 14) (.lit 50)))]
def tn0L : List (Nat × AO) := [(0, c [i6 1, i6 2, i6 1, p 1, p 2, .int .i32 (.lit 0), .int .u32 (.lit 0), .slice 20 0 (.lit 1) (.room 8)]), (1, c [.iface 174 (.slice 3 0 (.lit 18) (.known 18)), i6 5]), (2, c [.slice 4 0 (.lit 1) (.known 1)]), (3, c [u6 0, u6 1, u6 73, u6 134217721, u6 0, u6 0, u6 0, u6 0, u6 1, u6 0, u6 0, u6 0, u6 0, u6 0, u6 0, u6 0, u6 0, u6 0]), (4, c [.chan 5]), (5, .chan 1 []), (6, .rows 1 [.i64, .i64, .i64] (y 5) []), (8, c [p 0]), (9, .map [(i6 0, .agg [.func 18 [] [], .func 19 [] [], .bool (.lit true)]), (i6 1, .agg [.func 20 [] [], .func 21 [] [], .bool (.lit false)]), (i6 7, .agg [.func 22 [] [], .func 23 [] [], .bool (.lit false)])]), (10, c [.map 9]), (11, c [p 0]), (12, c [.func 25 [] [p 8, p 10]]), (13, c [.slice 45 0 (.lit 1) (.room 1)]), (14, c [i6 0]), (15, c [.slice 6 0 (y 5) (.room 3)]), (16, c [i6 0]), (20, c [i6 0, i6 0, i6 0, .int .i64 (.sel .i64 1 0 (.lit 0)), .int .i64 (.sel .i64 1 1 (.lit 0)), .int .i64 (.sel .i64 1 2 (.lit 0)), i6 0, i6 0]), (23, c [p 1]), (24, c [i6 8]), (25, c [u6 1]), (26, c [u6 0]), (27, c [.func 223 [] [p 23, p 24, p 25, p 26]]), (28, c [p 1]), (29, c [i6 8]), (30, c [u6 1]), (31, c [u6 0]), (32, c [.func 239 [] [p 28, p 29, p 30, p 31], .ptr0, i6 0, .bool (.lit false)]), (41, c [.func 224 [] [], .func 102 [] [p 27], .func 97 [] [p 12, p 14, p 15, p 16, p 11]]), (42, c [p 32, i6 0, .slice 41 0 (.lit 3) (.room 1)]), (43, c [p 42, .func 94 [] [p 15, p 11, p 14, p 12], .slice0]), (45, c [p 43])]
noncomputable def tnKT : Tr AV := mkT [(0, p 13), (1, .int .i64 (.bin .add .i64 (y 14) (.lit 50))), (5, .int .i64 (y 6))]
def tnKL : List (Nat × AO) := [(0, c [i6 1, i6 2, i6 1, p 1, p 2, .int .i32 (.lit 0), .int .u32 (.lit 0), .slice 46 0 (.bin .add .i64 (y 13) (.lit 1)) (.room 8)]), (1, c [.iface 174 (.slice 3 0 (.lit 18) (.known 18)), .int .i64 (.bin .add .i64 (y 6) (.lit 5))]), (2, c [.slice 4 0 (.lit 1) (.known 1)]), (3, c [u6 0, .int .u64 (.var .u64 30), .int .u64 (.var .u64 9), u6 134217721, u6 0, u6 0, u6 0, u6 0, u6 1, u6 0, u6 0, .int .u64 (.var .u64 11), u6 0, u6 0, u6 0, u6 0, u6 0, u6 0]), (4, c [.chan 5]), (5, .chan 1 []), (6, .rows 1 [.i64, .i64, .i64] (y 5) []), (8, c [p 0]), (9, .map [(i6 0, .agg [.func 18 [] [], .func 19 [] [], .bool (.lit true)]), (i6 1, .agg [.func 20 [] [], .func 21 [] [], .bool (.lit false)]), (i6 7, .agg [.func 22 [] [], .func 23 [] [], .bool (.lit false)])]), (10, c [.map 9]), (11, c [p 0]), (12, c [.func 25 [] [p 8, p 10]]), (13, c [.slice 45 0 (.lit 1) (.room 1)]), (14, c [i6 0]), (15, c [.slice 6 0 (y 5) (.room 3)]), (43, c [p 47, .func 94 [] [p 15, p 11, p 14, p 12], .slice 48 0 (y 4) (.room 1)]), (45, c [p 43]), (46, .rows 6 [.i64, .i64, .i64, .i64, .i64, .i64, .i64, .i64] (.bin .add .i64 (y 13) (.lit 1)) []), (47, c [p 49, i6 0, .slice 50 0 (.lit 3) (.room 1)]), (48, .rows 8 [.i64] (y 4) []), (49, c [.func 239 [] [p 51, p 52, p 53, p 54], .ptr0, i6 0, .bool (.lit false)]), (50, c [.func 224 [] [], .func 102 [] [p 55], .func 97 [] [p 12, p 14, p 15, p 56, p 11]]), (51, c [p 1]), (52, c [i6 8]), (53, c [u6 1]), (54, c [u6 0]), (55, c [.func 223 [] [p 57, p 58, p 59, p 60]]), (56, c [.int .i64 (y 4)]), (57, c [p 1]), (58, c [i6 8]), (59, c [u6 1]), (60, c [u6 0])]
noncomputable def tnDT : Tr AV := mkT [(0, p 13), (1, .int .i64 (.bin .add .i64 (y 14) (.lit 50))), (5, .int .i64 (y 6))]
def tnDL : List (Nat × AO) := [(0, c [i6 1, i6 2, i6 1, p 1, p 2, .int .i32 (.lit 0), .int .u32 (.lit 0), .slice 46 0 (y 13) (.room 8)]), (1, c [.iface 174 (.slice 3 0 (.lit 18) (.known 18)), .int .i64 (.bin .add .i64 (y 6) (.lit 5))]), (2, c [.slice 4 0 (.lit 1) (.known 1)]), (3, c [u6 0, .int .u64 (.var .u64 30), .int .u64 (.var .u64 9), u6 134217721, u6 0, u6 0, u6 0, u6 0, u6 1, u6 0, u6 0, .int .u64 (.var .u64 11), u6 0, u6 0, u6 0, u6 0, u6 0, u6 0]), (4, c [.chan 5]), (5, .chan 1 []), (6, .rows 1 [.i64, .i64, .i64] (y 5) []), (8, c [p 0]), (9, .map [(i6 0, .agg [.func 18 [] [], .func 19 [] [], .bool (.lit true)]), (i6 1, .agg [.func 20 [] [], .func 21 [] [], .bool (.lit false)]), (i6 7, .agg [.func 22 [] [], .func 23 [] [], .bool (.lit false)])]), (10, c [.map 9]), (11, c [p 0]), (12, c [.func 25 [] [p 8, p 10]]), (13, c [.slice 45 0 (.lit 1) (.room 1)]), (14, c [i6 0]), (15, c [.slice 6 0 (y 5) (.room 3)]), (43, c [.ptr0, .func 94 [] [p 15, p 11, p 14, p 12], .slice 47 0 (y 5) (.room 1)]), (45, c [p 43]), (46, .rows 6 [.i64, .i64, .i64, .i64, .i64, .i64, .i64, .i64] (y 13) []), (47, .rows 8 [.i64] (y 5) [])]
def tn1A : Asm := [((.cmp .eql .i64 (.sel .i64 6 0 (.lit 0)) (.lit 0)), true),
  ((.cmp .eql .i64 (.sel .i64 6 1 (.lit 0)) (.lit 0)), true),
  ((.cmp .eql .i64 (.sel .i64 6 2 (.lit 0)) (.lit 0)), true),
  ((.cmp .eql .i64 (.sel .i64 6 3 (.lit 0)) (.sel .i64 1 0 (.lit 0))), true),
  ((.cmp .eql .i64 (.sel .i64 6 4 (.lit 0)) (.sel .i64 1 1 (.lit 0))), true),
  ((.cmp .eql .i64 (.sel .i64 6 5 (.lit 0)) (.sel .i64 1 2 (.lit 0))), true),
  ((.cmp .eql .i64 (.sel .i64 6 6 (.lit 0)) (.lit 0)), true),
  ((.cmp .eql .i64 (.sel .i64 6 7 (.lit 0)) (.lit 0)), true)]
def tn2A : Asm := []
noncomputable def tn1T : Tr AV := mkT [(0, p 13), (1, .int .i64 (.bin .add .i64 (y 14) (.lit 50)))]
def tn1L : List (Nat × AO) := [(0, c [i6 1, i6 2, i6 1, p 1, p 2, .int .i32 (.lit 0), .int .u32 (.lit 0), .slice 20 0 (.lit 1) (.room 8)]), (1, c [.iface 174 (.slice 3 0 (.lit 18) (.known 18)), i6 5]), (2, c [.slice 4 0 (.lit 1) (.known 1)]), (3, c [u6 0, u6 1, u6 73, u6 134217721, u6 0, u6 0, u6 0, u6 0, u6 1, u6 0, u6 0, u6 0, u6 0, u6 0, u6 0, u6 0, u6 0, u6 0]), (4, c [.chan 5]), (5, .chan 1 []), (6, .rows 1 [.i64, .i64, .i64] (y 5) []), (8, c [p 0]), (9, .map [(i6 0, .agg [.func 18 [] [], .func 19 [] [], .bool (.lit true)]), (i6 1, .agg [.func 20 [] [], .func 21 [] [], .bool (.lit false)]), (i6 7, .agg [.func 22 [] [], .func 23 [] [], .bool (.lit false)])]), (10, c [.map 9]), (11, c [p 0]), (12, c [.func 25 [] [p 8, p 10]]), (13, c [.slice 45 0 (.lit 1) (.room 1)]), (14, c [i6 0]), (15, c [.slice 6 0 (y 5) (.room 3)]), (16, c [i6 0]), (20, .rows 6 [.i64, .i64, .i64, .i64, .i64, .i64, .i64, .i64] (.lit 1) []), (23, c [p 1]), (24, c [i6 8]), (25, c [u6 1]), (26, c [u6 0]), (27, c [.func 223 [] [p 23, p 24, p 25, p 26]]), (28, c [p 1]), (29, c [i6 8]), (30, c [u6 1]), (31, c [u6 0]), (32, c [.func 239 [] [p 28, p 29, p 30, p 31], .ptr0, i6 0, .bool (.lit false)]), (41, c [.func 224 [] [], .func 102 [] [p 27], .func 97 [] [p 12, p 14, p 15, p 16, p 11]]), (42, c [p 32, i6 0, .slice 41 0 (.lit 3) (.room 1)]), (43, c [p 42, .func 94 [] [p 15, p 11, p 14, p 12], .slice0]), (45, c [p 43])]
theorem tn1k : stepOK tn1A (stepChk (ev tab tn1A 1000000) tnc0 6 .normal tn0T tn0L 46 [] 46 tn1T tn1L 46) = true := by kernel_rfl
theorem tn1_lead {v : Nat → Nat} {arr : Nat → Nat → Nat → Nat} (ha : AsmV tn1A v arr) (hb : BndA arr) : Leads Tryz.prog tnc0 6 .normal 46 ⟨tn0T, tn0L, 46, tn1A, v, arr⟩ ⟨tn1T, tn1L, 46, tn1A, v, arr⟩ := Leads.same (snd tn1A) tn1k ha hb
noncomputable def tn2T : Tr AV := mkT [(0, p 13), (1, .int .i64 (.bin .add .i64 (y 14) (.lit 50))), (5, i6 0)]
def tn2L : List (Nat × AO) := [(0, c [i6 1, i6 2, i6 1, p 1, p 2, .int .i32 (.lit 0), .int .u32 (.lit 0), .slice 20 0 (.lit 1) (.room 8)]), (1, c [.iface 174 (.slice 3 0 (.lit 18) (.known 18)), i6 5]), (2, c [.slice 4 0 (.lit 1) (.known 1)]), (3, c [u6 0, u6 1, u6 73, u6 134217721, u6 0, u6 0, u6 0, u6 0, u6 1, u6 0, u6 0, u6 0, u6 0, u6 0, u6 0, u6 0, u6 0, u6 0]), (4, c [.chan 5]), (5, .chan 1 []), (6, .rows 1 [.i64, .i64, .i64] (y 5) []), (8, c [p 0]), (9, .map [(i6 0, .agg [.func 18 [] [], .func 19 [] [], .bool (.lit true)]), (i6 1, .agg [.func 20 [] [], .func 21 [] [], .bool (.lit false)]), (i6 7, .agg [.func 22 [] [], .func 23 [] [], .bool (.lit false)])]), (10, c [.map 9]), (11, c [p 0]), (12, c [.func 25 [] [p 8, p 10]]), (13, c [.slice 45 0 (.lit 1) (.room 1)]), (14, c [i6 0]), (15, c [.slice 6 0 (y 5) (.room 3)]), (16, c [i6 0]), (20, .rows 6 [.i64, .i64, .i64, .i64, .i64, .i64, .i64, .i64] (.lit 1) []), (23, c [p 1]), (24, c [i6 8]), (25, c [u6 1]), (26, c [u6 0]), (27, c [.func 223 [] [p 23, p 24, p 25, p 26]]), (28, c [p 1]), (29, c [i6 8]), (30, c [u6 1]), (31, c [u6 0]), (32, c [.func 239 [] [p 28, p 29, p 30, p 31], .ptr0, i6 0, .bool (.lit false)]), (41, c [.func 224 [] [], .func 102 [] [p 27], .func 97 [] [p 12, p 14, p 15, p 16, p 11]]), (42, c [p 32, i6 0, .slice 41 0 (.lit 3) (.room 1)]), (43, c [p 42, .func 94 [] [p 15, p 11, p 14, p 12], .slice0]), (45, c [p 43])]
theorem tn2k : stepOK tn2A (stepChk (ev tab tn2A 1000000) tnc1 6 .normal tn1T tn1L 46 [] 46 tn2T tn2L 46) = true := by kernel_rfl
theorem tn2_lead {v : Nat → Nat} {arr : Nat → Nat → Nat → Nat} (ha : AsmV tn2A v arr) (hb : BndA arr) : Leads Tryz.prog tnc1 6 .normal 46 ⟨tn1T, tn1L, 46, tn2A, v, arr⟩ ⟨tn2T, tn2L, 46, tn2A, v, arr⟩ := Leads.same (snd tn2A) tn2k ha hb
end Go.Sx
namespace Go.Sx
open Go Go.Proofs
def tnXb : Asm := []
def tnXl : Asm := [((.cmp .lss .i64 (y 6) (.bin .add .i64 (y 14) (.lit 50))), true)]
noncomputable def tnXA : Asm := lapp tnXb tnXl
theorem tnXA_eq : tnXA = tnXb ++ tnXl := by kernel_rfl
noncomputable def tnX1T : Tr AV := mkT [(0, p 13)]
def tnX1L : List (Nat × AO) := [(0, c [i6 1, i6 2, i6 1, p 1, p 2, .int .i32 (.lit 0), .int .u32 (.lit 0), .slice 46 0 (y 13) (.room 8)]), (1, c [.iface 174 (.slice 3 0 (.lit 18) (.known 18)), .int .i64 (.bin .add .i64 (y 6) (.lit 5))]), (2, c [.slice 4 0 (.lit 1) (.known 1)]), (3, c [u6 0, .int .u64 (.var .u64 30), .int .u64 (.var .u64 9), u6 134217721, u6 0, u6 0, u6 0, u6 0, u6 1, u6 0, u6 0, .int .u64 (.var .u64 11), u6 0, u6 0, u6 0, u6 0, u6 0, u6 0]), (4, c [.chan 5]), (5, .chan 1 []), (6, .rows 1 [.i64, .i64, .i64] (y 5) []), (8, c [p 0]), (9, .map [(i6 0, .agg [.func 18 [] [], .func 19 [] [], .bool (.lit true)]), (i6 1, .agg [.func 20 [] [], .func 21 [] [], .bool (.lit false)]), (i6 7, .agg [.func 22 [] [], .func 23 [] [], .bool (.lit false)])]), (10, c [.map 9]), (11, c [p 0]), (12, c [.func 25 [] [p 8, p 10]]), (13, c [.slice 45 0 (.lit 1) (.room 1)]), (14, c [i6 0]), (15, c [.slice 6 0 (y 5) (.room 3)]), (43, c [.ptr0, .func 94 [] [p 15, p 11, p 14, p 12], .slice 47 0 (y 5) (.room 1)]), (45, c [p 43]), (46, .rows 6 [.i64, .i64, .i64, .i64, .i64, .i64, .i64, .i64] (y 13) []), (47, .rows 8 [.i64] (y 5) [])]
theorem tnX1k : stepOK tnXA (stepChk (ev tab tnXA 1000000) tnB 6 (.exit 0) tnDT tnDL 48 [] 46 tnX1T tnX1L 48) = true := by kernel_rfl
theorem tnX_out {v : Nat → Nat} {arr : Nat → Nat → Nat → Nat} (ha : AsmV tnXA v arr) (hb : BndA arr) : Leads Tryz.prog tnB 6 (.exit 0) 46 ⟨tnDT, tnDL, 48, tnXA, v, arr⟩ ⟨tnX1T, tnX1L, 48, tnXA, v, arr⟩ := by
  have h1 := Leads.same (fn := 6) (snd tnXA) tnX1k ha hb
  exact h1
noncomputable def tnET : Tr AV := mkT [(0, p 13)]
def tnEL : List (Nat × AO) := [(0, c [i6 1, i6 2, i6 1, p 1, p 2, .int .i32 (.lit 0), .int .u32 (.lit 0), .slice 46 0 (y 24) (.room 8)]), (1, c [.iface 174 (.slice 3 0 (.lit 18) (.known 18)), .int .i64 (.bin .add .i64 (y 23) (.lit 5))]), (2, c [.slice 4 0 (.lit 1) (.known 1)]), (3, c [u6 0, .int .u64 (.var .u64 22), .int .u64 (.var .u64 20), u6 134217721, u6 0, u6 0, u6 0, u6 0, u6 1, u6 0, u6 0, .int .u64 (.var .u64 21), u6 0, u6 0, u6 0, u6 0, u6 0, u6 0]), (4, c [.chan 5]), (5, .chan 1 []), (6, .rows 1 [.i64, .i64, .i64] (y 5) []), (8, c [p 0]), (9, .map [(i6 0, .agg [.func 18 [] [], .func 19 [] [], .bool (.lit true)]), (i6 1, .agg [.func 20 [] [], .func 21 [] [], .bool (.lit false)]), (i6 7, .agg [.func 22 [] [], .func 23 [] [], .bool (.lit false)])]), (10, c [.map 9]), (11, c [p 0]), (12, c [.func 25 [] [p 8, p 10]]), (13, c [.slice 45 0 (.lit 1) (.room 1)]), (14, c [i6 0]), (15, c [.slice 6 0 (y 5) (.room 3)]), (43, c [.ptr0, .func 94 [] [p 15, p 11, p 14, p 12], .slice 47 0 (y 5) (.room 1)]), (45, c [p 43]), (46, .rows 6 [.i64, .i64, .i64, .i64, .i64, .i64, .i64, .i64] (y 24) []), (47, .rows 8 [.i64] (y 5) [])]
def tnXrE : Eqs := [((y 24), (y 13)), ((.bin .add .i64 (y 23) (.lit 5)), (.bin .add .i64 (y 6) (.lit 5))), ((.var .u64 22), (.var .u64 30)), ((.var .u64 20), (.var .u64 9)), ((.var .u64 21), (.var .u64 11)), ((y 5), (y 5)), ((y 5), (y 5))]
def tnXrR : List RowEq := [⟨1, [.i64, .i64, .i64], (y 5), 1, (y 5), []⟩, ⟨6, [.i64, .i64, .i64, .i64, .i64, .i64, .i64, .i64], (y 24), 6, (y 13), []⟩, ⟨8, [.i64], (y 5), 8, (y 5), []⟩]
theorem tnXr_ren : seen [] 46 tnET tnEL 48 tnX1T (mkG tnX1L 48) = some (tnXrE, tnXrR) := by kernel_rfl
def tnE1A : Asm := []
def tnE2A : Asm := []
noncomputable def tnE1T : Tr AV := mkT [(4, .bool (.lit true))]
def tnE1L : List (Nat × AO) := [(0, c [i6 1, i6 2, i6 1, p 1, p 2, .int .i32 (.lit 0), .int .u32 (.lit 0), .slice 46 0 (y 24) (.room 8)]), (1, c [.iface 174 (.slice 3 0 (.lit 18) (.known 18)), .int .i64 (.bin .add .i64 (y 23) (.lit 5))]), (2, c [.slice 4 0 (.lit 1) (.known 1)]), (3, c [u6 0, .int .u64 (.var .u64 22), .int .u64 (.var .u64 20), u6 134217721, u6 0, u6 0, u6 0, u6 0, u6 1, u6 0, u6 0, .int .u64 (.var .u64 21), u6 0, u6 0, u6 0, u6 0, u6 0, u6 0]), (4, c [.chan 5]), (5, .chan 1 []), (46, .rows 6 [.i64, .i64, .i64, .i64, .i64, .i64, .i64, .i64] (y 24) [])]
theorem tnE1k : stepOK tnE1A (stepChk (ev tab tnE1A 1000000) tnc2 6 .normal tnET tnEL 48 [] 46 tnE1T tnE1L 47) = true := by kernel_rfl
theorem tnE1_lead {v : Nat → Nat} {arr : Nat → Nat → Nat → Nat} (ha : AsmV tnE1A v arr) (hb : BndA arr) : Leads Tryz.prog tnc2 6 .normal 46 ⟨tnET, tnEL, 48, tnE1A, v, arr⟩ ⟨tnE1T, tnE1L, 47, tnE1A, v, arr⟩ := Leads.same (snd tnE1A) tnE1k ha hb
noncomputable def tnE2T : Tr AV := mkT [(4, .bool (.lit true))]
def tnE2L : List (Nat × AO) := [(0, c [i6 1, i6 2, i6 1, p 1, p 2, .int .i32 (.lit 0), .int .u32 (.lit 0), .slice 46 0 (y 24) (.room 8)]), (1, c [.iface 174 (.slice 3 0 (.lit 18) (.known 18)), .int .i64 (.bin .add .i64 (y 23) (.lit 5))]), (2, c [.slice 4 0 (.lit 1) (.known 1)]), (3, c [u6 0, .int .u64 (.var .u64 22), .int .u64 (.var .u64 20), u6 134217721, u6 0, u6 0, u6 0, u6 0, u6 1, u6 0, u6 0, .int .u64 (.var .u64 21), u6 0, u6 0, u6 0, u6 0, u6 0, u6 0]), (4, c [.chan 5]), (5, .chan 1 []), (46, .rows 6 [.i64, .i64, .i64, .i64, .i64, .i64, .i64, .i64] (y 24) [])]
theorem tnE2k : stepOK tnE2A (stepChk (ev tab tnE2A 1000000) .ret 6 .ret tnE1T tnE1L 47 [] 46 tnE2T tnE2L 47) = true := by kernel_rfl
theorem tnE2_lead {v : Nat → Nat} {arr : Nat → Nat → Nat → Nat} (ha : AsmV tnE2A v arr) (hb : BndA arr) : Leads Tryz.prog .ret 6 .ret 46 ⟨tnE1T, tnE1L, 47, tnE2A, v, arr⟩ ⟨tnE2T, tnE2L, 47, tnE2A, v, arr⟩ := Leads.same (snd tnE2A) tnE2k ha hb
end Go.Sx
namespace Go.Sx
open Go Go.Proofs
def tnSb : Asm := []
def tnSl : Asm := [((.cmp .lss .i64 (.lit 0) (.bin .add .i64 (y 14) (.lit 50))), true),
  ((.cmp .lss .u64 (.lit 0) (y 5)), true),
  ((.cmp .eql .i64 (.sel .i64 1 0 (.lit 0)) (.lit 0)), true),
  ((.cmp .lss .i64 (.lit 1) (.bin .add .i64 (y 14) (.lit 50))), true),
  ((.cmp .lss .i64 (.bin .add .i64 (.sel .i64 1 1 (.lit 0)) (.lit 2)) (.lit 0)), false),
  ((.cmp .geq .i64 (.bin .add .i64 (.sel .i64 1 1 (.lit 0)) (.lit 2)) (.lit 18)), false),
  ((.cmp .eql .i64 (.bin .add .i64 (.sel .i64 1 1 (.lit 0)) (.lit 2)) (.lit 2)), true),
  ((.cmp .lss .i64 (.lit 2) (.bin .add .i64 (y 14) (.lit 50))), true),
  ((.cmp .eql .i64 (.sel .i64 6 0 (.lit 1)) (.lit 1)), true),
  ((.cmp .eql .i64 (.sel .i64 6 1 (.lit 1)) (.lit 0)), true),
  ((.cmp .eql .i64 (.sel .i64 6 2 (.lit 1)) (.lit 0)), true),
  ((.cmp .eql .i64 (.sel .i64 6 3 (.lit 1)) (.lit 0)), true),
  ((.cmp .eql .i64 (.sel .i64 6 4 (.lit 1)) (.sel .i64 1 1 (.lit 0))), true),
  ((.cmp .eql .i64 (.sel .i64 6 5 (.lit 1)) (.lit 0)), true),
  ((.cmp .eql .i64 (.sel .i64 6 6 (.lit 1)) (.lit 0)), true),
  ((.cmp .eql .i64 (.sel .i64 6 7 (.lit 1)) (.lit 0)), true)]
noncomputable def tnSA : Asm := lapp tnSb tnSl
theorem tnSA_eq : tnSA = tnSb ++ tnSl := by kernel_rfl
noncomputable def tnS1T : Tr AV := mkT [(0, p 13), (1, .int .i64 (.bin .add .i64 (y 14) (.lit 50))), (5, i6 1)]
def tnS1L : List (Nat × AO) := [(0, c [i6 1, i6 2, i6 1, p 1, p 2, .int .i32 (.lit 0), .int .u32 (.lit 0), .slice 20 0 (.lit 1) (.room 8)]), (1, c [.iface 174 (.slice 3 0 (.lit 18) (.known 18)), i6 6]), (2, c [.slice 4 0 (.lit 1) (.known 1)]), (3, c [u6 0, u6 1, u6 73, u6 134217721, u6 0, u6 0, u6 0, u6 0, u6 0, u6 0, u6 0, u6 0, u6 0, u6 0, u6 0, u6 0, u6 0, u6 0]), (4, c [.chan 5]), (5, .chan 1 []), (6, .rows 1 [.i64, .i64, .i64] (y 5) []), (8, c [p 0]), (9, .map [(i6 0, .agg [.func 18 [] [], .func 19 [] [], .bool (.lit true)]), (i6 1, .agg [.func 20 [] [], .func 21 [] [], .bool (.lit false)]), (i6 7, .agg [.func 22 [] [], .func 23 [] [], .bool (.lit false)])]), (10, c [.map 9]), (11, c [p 0]), (12, c [.func 25 [] [p 8, p 10]]), (13, c [.slice 45 0 (.lit 1) (.room 1)]), (14, c [i6 0]), (15, c [.slice 6 0 (y 5) (.room 3)]), (16, c [i6 0]), (20, .rows 6 [.i64, .i64, .i64, .i64, .i64, .i64, .i64, .i64] (.lit 1) []), (42, c [p 46, i6 0, .slice 47 0 (.lit 5) (.known 5)]), (43, c [p 42, .func 94 [] [p 15, p 11, p 14, p 12], .slice0]), (45, c [p 43]), (46, c [.func 135 [] [p 48, p 49, p 50], .ptr0, i6 0, .bool (.lit false)]), (47, c [.func 138 [] [p 49, p 51, p 48], .func 102 [] [p 52], .func 103 [] [p 53], .func 102 [] [p 54], .func 98 [] [p 11, p 14, p 16]]), (48, c [p 0, i6 0, .int .i64 (.sel .i64 1 1 (.lit 0))]), (49, c [u6 0]), (50, c [.func 51 [] []]), (51, c [.func 52 [] [p 55]]), (52, c [.func 49 [] [p 55]]), (53, c [p 0, i6 0, .int .i64 (.sel .i64 1 1 (.lit 0)), .func 18 [] [], .func 19 [] [], .bool (.lit true)]), (54, c [.func 27 [.agg [p 0, i6 0, .int .i64 (.sel .i64 1 1 (.lit 0)), .func 18 [] [], .func 19 [] [], .bool (.lit true)]] []]), (55, c [p 0, i6 0, .int .i64 (.sel .i64 1 1 (.lit 0))])]
theorem tnS1k : stepOK tnSA (stepChk (ev tab tnSA 1000000) tnB 6 .normal tn2T tn2L 46 [(55, 65), (54, 63), (53, 64), (52, 66), (51, 69), (50, 68), (49, 70), (48, 67), (47, 86), (46, 71)] 46 tnS1T tnS1L 56) = true := by kernel_rfl
noncomputable def tnS2T : Tr AV := mkT [(0, p 13), (1, .int .i64 (.bin .add .i64 (y 14) (.lit 50))), (5, i6 2)]
def tnS2L : List (Nat × AO) := [(0, c [i6 1, i6 2, i6 1, p 1, p 2, .int .i32 (.lit 0), .int .u32 (.lit 0), .slice 20 0 (.lit 1) (.room 8)]), (1, c [.iface 174 (.slice 3 0 (.lit 18) (.known 18)), i6 7]), (2, c [.slice 4 0 (.lit 1) (.known 1)]), (3, c [u6 0, u6 1, u6 73, u6 134217721, u6 0, u6 0, u6 0, u6 0, u6 0, u6 0, u6 0, u6 0, u6 0, u6 0, u6 0, u6 0, u6 0, u6 0]), (4, c [.chan 5]), (5, .chan 1 []), (6, .rows 1 [.i64, .i64, .i64] (y 5) []), (8, c [p 0]), (9, .map [(i6 0, .agg [.func 18 [] [], .func 19 [] [], .bool (.lit true)]), (i6 1, .agg [.func 20 [] [], .func 21 [] [], .bool (.lit false)]), (i6 7, .agg [.func 22 [] [], .func 23 [] [], .bool (.lit false)])]), (10, c [.map 9]), (11, c [p 0]), (12, c [.func 25 [] [p 8, p 10]]), (13, c [.slice 45 0 (.lit 1) (.room 1)]), (14, c [i6 0]), (15, c [.slice 6 0 (y 5) (.room 3)]), (16, c [i6 0]), (20, .rows 6 [.i64, .i64, .i64, .i64, .i64, .i64, .i64, .i64] (.lit 1) []), (42, c [p 46, i6 0, .slice 47 0 (.lit 5) (.room 1)]), (43, c [p 42, .func 94 [] [p 15, p 11, p 14, p 12], .slice0]), (45, c [p 43]), (46, c [.func 139 [] [p 48, p 49, p 50, p 51], .ptr0, i6 0, .bool (.lit false)]), (47, c [.func 141 [] [], .func 102 [] [p 52], .func 103 [] [p 53], .func 102 [] [p 54], .func 98 [] [p 11, p 14, p 16]]), (48, c [p 0, i6 0, .int .i64 (.sel .i64 1 1 (.lit 0))]), (49, c [u6 73]), (50, c [u6 4398046511179]), (51, c [i6 0]), (52, c [.func 49 [] [p 55]]), (53, c [p 0, i6 0, .int .i64 (.sel .i64 1 1 (.lit 0)), .func 18 [] [], .func 19 [] [], .bool (.lit true)]), (54, c [.func 27 [.agg [p 0, i6 0, .int .i64 (.sel .i64 1 1 (.lit 0)), .func 18 [] [], .func 19 [] [], .bool (.lit true)]] []]), (55, c [p 0, i6 0, .int .i64 (.sel .i64 1 1 (.lit 0))])]
theorem tnS2k : stepOK tnSA (stepChk (ev tab tnSA 1000000) tnB 6 .normal tnS1T tnS1L 56 [(51, 656), (50, 655), (49, 654), (48, 653), (47, 662), (46, 657)] 46 tnS2T tnS2L 56) = true := by kernel_rfl
noncomputable def tnS3T : Tr AV := mkT [(0, p 13), (1, .int .i64 (.bin .add .i64 (y 14) (.lit 50))), (5, i6 3)]
def tnS3L : List (Nat × AO) := [(0, c [i6 1, i6 2, i6 1, p 1, p 2, .int .i32 (.lit 0), .int .u32 (.lit 0), .slice 46 0 (.lit 2) (.room 8)]), (1, c [.iface 174 (.slice 3 0 (.lit 18) (.known 18)), i6 8]), (2, c [.slice 4 0 (.lit 1) (.known 1)]), (3, c [u6 0, u6 1, u6 4398046511179, u6 134217721, u6 0, u6 0, u6 0, u6 0, u6 0, u6 0, u6 0, u6 0, u6 0, u6 0, u6 0, u6 0, u6 0, u6 0]), (4, c [.chan 5]), (5, .chan 1 []), (6, .rows 1 [.i64, .i64, .i64] (y 5) []), (8, c [p 0]), (9, .map [(i6 0, .agg [.func 18 [] [], .func 19 [] [], .bool (.lit true)]), (i6 1, .agg [.func 20 [] [], .func 21 [] [], .bool (.lit false)]), (i6 7, .agg [.func 22 [] [], .func 23 [] [], .bool (.lit false)])]), (10, c [.map 9]), (11, c [p 0]), (12, c [.func 25 [] [p 8, p 10]]), (13, c [.slice 45 0 (.lit 1) (.room 1)]), (14, c [i6 0]), (15, c [.slice 6 0 (y 5) (.room 3)]), (16, c [i6 0]), (42, c [p 47, i6 0, .slice 48 0 (.lit 1) (.known 1)]), (43, c [p 42, .func 94 [] [p 15, p 11, p 14, p 12], .slice0]), (45, c [p 43]), (46, .rows 6 [.i64, .i64, .i64, .i64, .i64, .i64, .i64, .i64] (.lit 2) []), (47, c [.func 225 [] [p 49, p 50, p 51], .ptr0, i6 0, .bool (.lit false)]), (48, c [.func 100 [] [p 11, p 14, p 16, p 52]]), (49, c [p 1]), (50, c [i6 8]), (51, c [u6 1]), (52, c [i6 0])]
theorem tnS3k : stepOK tnSA (stepChk (ev tab tnSA 1000000) tnB 6 .normal tnS2T tnS2L 56 [(52, 79), (51, 84), (50, 83), (49, 82), (48, 88), (47, 85), (46, 71)] 46 tnS3T tnS3L 53) = true := by kernel_rfl
theorem tnS_run {v : Nat → Nat} {arr : Nat → Nat → Nat → Nat} (ha : AsmV tnSA v arr) (hb : BndA arr) : Rounds Tryz.prog tnB 6 46 ⟨tn2T, tn2L, 46, tnSA, v, arr⟩ ⟨tnS3T, tnS3L, 53, tnSA, v, arr⟩ := by
  have h1 := Leads.same (fn := 6) (snd tnSA) tnS1k ha hb
  have h2 := Leads.same (fn := 6) (snd tnSA) tnS2k ha hb
  have h3 := Leads.same (fn := 6) (snd tnSA) tnS3k ha hb
  exact .step h1 (.step h2 (Rounds.one h3))
def tnSkb : Asm := []
def tnSkl : Asm := [((.cmp .lss .i64 (.lit 3) (.bin .add .i64 (y 14) (.lit 50))), true),
  ((.cmp .geq .i64 (.lit 1) (y 5)), false),
  ((.cmp .lss .u64 (.lit 1) (y 5)), true),
  ((.cmp .eql .i64 (.sel .i64 6 0 (.lit 2)) (.lit 2)), true),
  ((.cmp .eql .i64 (.sel .i64 6 1 (.lit 2)) (.lit 0)), true),
  ((.cmp .eql .i64 (.sel .i64 6 2 (.lit 2)) (.lit 0)), true),
  ((.cmp .eql .i64 (.sel .i64 6 3 (.lit 2)) (.lit 0)), true),
  ((.cmp .eql .i64 (.sel .i64 6 4 (.lit 2)) (.lit 0)), true),
  ((.cmp .eql .i64 (.sel .i64 6 5 (.lit 2)) (.lit 0)), true),
  ((.cmp .eql .i64 (.sel .i64 6 6 (.lit 2)) (.lit 0)), true),
  ((.cmp .eql .i64 (.sel .i64 6 7 (.lit 2)) (.lit 0)), true),
  ((.cmp .eql .i64 (.sel .i64 6 0 (.lit 3)) (.lit 0)), true),
  ((.cmp .eql .i64 (.sel .i64 6 1 (.lit 3)) (.lit 0)), true),
  ((.cmp .eql .i64 (.sel .i64 6 2 (.lit 3)) (.lit 1)), true),
  ((.cmp .eql .i64 (.sel .i64 6 3 (.lit 3)) (.sel .i64 1 0 (.lit 1))), true),
  ((.cmp .eql .i64 (.sel .i64 6 4 (.lit 3)) (.sel .i64 1 1 (.lit 1))), true),
  ((.cmp .eql .i64 (.sel .i64 6 5 (.lit 3)) (.sel .i64 1 2 (.lit 1))), true),
  ((.cmp .eql .i64 (.sel .i64 6 6 (.lit 3)) (.lit 0)), true),
  ((.cmp .eql .i64 (.sel .i64 6 7 (.lit 3)) (.lit 0)), true),
  ((.cmp .eql .i64 (.sel .i64 8 0 (.lit 0)) (.lit 0)), true)]
noncomputable def tnSkA : Asm := lapp tnSkb tnSkl
theorem tnSkA_eq : tnSkA = tnSkb ++ tnSkl := by kernel_rfl
noncomputable def tnSk1T : Tr AV := mkT [(0, p 13), (1, .int .i64 (.bin .add .i64 (y 14) (.lit 50))), (5, i6 4)]
def tnSk1L : List (Nat × AO) := [(0, c [i6 1, i6 2, i6 1, p 1, p 2, .int .i32 (.lit 0), .int .u32 (.lit 0), .slice 46 0 (.lit 4) (.room 8)]), (1, c [.iface 174 (.slice 3 0 (.lit 18) (.known 18)), i6 9]), (2, c [.slice 4 0 (.lit 1) (.known 1)]), (3, c [u6 0, u6 1, u6 4398046511179, u6 134217721, u6 0, u6 0, u6 0, u6 0, u6 1, u6 0, u6 0, u6 0, u6 0, u6 0, u6 0, u6 0, u6 0, u6 0]), (4, c [.chan 5]), (5, .chan 1 []), (6, .rows 1 [.i64, .i64, .i64] (y 5) []), (8, c [p 0]), (9, .map [(i6 0, .agg [.func 18 [] [], .func 19 [] [], .bool (.lit true)]), (i6 1, .agg [.func 20 [] [], .func 21 [] [], .bool (.lit false)]), (i6 7, .agg [.func 22 [] [], .func 23 [] [], .bool (.lit false)])]), (10, c [.map 9]), (11, c [p 0]), (12, c [.func 25 [] [p 8, p 10]]), (13, c [.slice 45 0 (.lit 1) (.room 1)]), (14, c [i6 0]), (15, c [.slice 6 0 (y 5) (.room 3)]), (43, c [p 47, .func 94 [] [p 15, p 11, p 14, p 12], .slice 48 0 (.lit 1) (.room 1)]), (45, c [p 43]), (46, .rows 6 [.i64, .i64, .i64, .i64, .i64, .i64, .i64, .i64] (.lit 4) []), (47, c [p 49, i6 0, .slice 50 0 (.lit 3) (.room 1)]), (48, .rows 8 [.i64] (.lit 1) []), (49, c [.func 239 [] [p 51, p 52, p 53, p 54], .ptr0, i6 0, .bool (.lit false)]), (50, c [.func 224 [] [], .func 102 [] [p 55], .func 97 [] [p 12, p 14, p 15, p 56, p 11]]), (51, c [p 1]), (52, c [i6 8]), (53, c [u6 1]), (54, c [u6 0]), (55, c [.func 223 [] [p 57, p 58, p 59, p 60]]), (56, c [i6 1]), (57, c [p 1]), (58, c [i6 8]), (59, c [u6 1]), (60, c [u6 0])]
theorem tnSk1k : stepOK tnSkA (stepChk (ev tab tnSkA 1000000) tnB 6 .normal tnS3T tnS3L 53 [(60, 81), (59, 80), (58, 79), (57, 78), (56, 71), (55, 82), (54, 86), (53, 85), (52, 84), (51, 83), (50, 96), (49, 87), (48, 70), (47, 97), (46, 75)] 46 tnSk1T tnSk1L 61) = true := by kernel_rfl
theorem tnSk_run {v : Nat → Nat} {arr : Nat → Nat → Nat → Nat} (ha : AsmV tnSkA v arr) (hb : BndA arr) : Rounds Tryz.prog tnB 6 46 ⟨tnS3T, tnS3L, 53, tnSkA, v, arr⟩ ⟨tnSk1T, tnSk1L, 61, tnSkA, v, arr⟩ := by
  have h1 := Leads.same (fn := 6) (snd tnSkA) tnSk1k ha hb
  exact Rounds.one h1
def tnSkrE : Eqs := [((.bin .add .i64 (y 13) (.lit 1)), (.lit 4)), ((.bin .add .i64 (y 6) (.lit 5)), (.lit 9)), ((.var .u64 30), (.lit 1)), ((.var .u64 9), (.lit 4398046511179)), ((.var .u64 11), (.lit 0)), ((y 5), (y 5)), ((y 4), (.lit 1)), ((y 4), (.lit 1)), ((.bin .add .i64 (y 14) (.lit 50)), (.bin .add .i64 (y 14) (.lit 50))), ((y 6), (.lit 4))]
def tnSkrR : List RowEq := [⟨1, [.i64, .i64, .i64], (y 5), 1, (y 5), []⟩, ⟨6, [.i64, .i64, .i64, .i64, .i64, .i64, .i64, .i64], (.bin .add .i64 (y 13) (.lit 1)), 6, (.lit 4), []⟩, ⟨8, [.i64], (y 4), 8, (.lit 1), []⟩]
theorem tnSkr_ren : seen [] 46 tnKT tnKL 61 tnSk1T (mkG tnSk1L 61) = some (tnSkrE, tnSkrR) := by kernel_rfl
def tnSdb : Asm := []
def tnSdl : Asm := [((.cmp .lss .i64 (.lit 3) (.bin .add .i64 (y 14) (.lit 50))), true),
  ((.cmp .geq .i64 (.lit 1) (y 5)), true),
  ((.cmp .eql .i64 (.sel .i64 6 0 (.lit 2)) (.lit 2)), true),
  ((.cmp .eql .i64 (.sel .i64 6 1 (.lit 2)) (.lit 0)), true),
  ((.cmp .eql .i64 (.sel .i64 6 2 (.lit 2)) (.lit 0)), true),
  ((.cmp .eql .i64 (.sel .i64 6 3 (.lit 2)) (.lit 0)), true),
  ((.cmp .eql .i64 (.sel .i64 6 4 (.lit 2)) (.lit 0)), true),
  ((.cmp .eql .i64 (.sel .i64 6 5 (.lit 2)) (.lit 0)), true),
  ((.cmp .eql .i64 (.sel .i64 6 6 (.lit 2)) (.lit 0)), true),
  ((.cmp .eql .i64 (.sel .i64 6 7 (.lit 2)) (.lit 0)), true),
  ((.cmp .eql .i64 (.sel .i64 8 0 (.lit 0)) (.lit 0)), true)]
noncomputable def tnSdA : Asm := lapp tnSdb tnSdl
theorem tnSdA_eq : tnSdA = tnSdb ++ tnSdl := by kernel_rfl
noncomputable def tnSd1T : Tr AV := mkT [(0, p 13), (1, .int .i64 (.bin .add .i64 (y 14) (.lit 50))), (5, i6 4)]
def tnSd1L : List (Nat × AO) := [(0, c [i6 1, i6 2, i6 1, p 1, p 2, .int .i32 (.lit 0), .int .u32 (.lit 0), .slice 46 0 (.lit 3) (.room 8)]), (1, c [.iface 174 (.slice 3 0 (.lit 18) (.known 18)), i6 9]), (2, c [.slice 4 0 (.lit 1) (.known 1)]), (3, c [u6 0, u6 1, u6 4398046511179, u6 134217721, u6 0, u6 0, u6 0, u6 0, u6 1, u6 0, u6 0, u6 0, u6 0, u6 0, u6 0, u6 0, u6 0, u6 0]), (4, c [.chan 5]), (5, .chan 1 []), (6, .rows 1 [.i64, .i64, .i64] (y 5) []), (8, c [p 0]), (9, .map [(i6 0, .agg [.func 18 [] [], .func 19 [] [], .bool (.lit true)]), (i6 1, .agg [.func 20 [] [], .func 21 [] [], .bool (.lit false)]), (i6 7, .agg [.func 22 [] [], .func 23 [] [], .bool (.lit false)])]), (10, c [.map 9]), (11, c [p 0]), (12, c [.func 25 [] [p 8, p 10]]), (13, c [.slice 45 0 (.lit 1) (.room 1)]), (14, c [i6 0]), (15, c [.slice 6 0 (y 5) (.room 3)]), (43, c [.ptr0, .func 94 [] [p 15, p 11, p 14, p 12], .slice 47 0 (.lit 1) (.room 1)]), (45, c [p 43]), (46, .rows 6 [.i64, .i64, .i64, .i64, .i64, .i64, .i64, .i64] (.lit 3) []), (47, .rows 8 [.i64] (.lit 1) [])]
theorem tnSd1k : stepOK tnSdA (stepChk (ev tab tnSdA 1000000) tnB 6 .normal tnS3T tnS3L 53 [(47, 70), (46, 67)] 46 tnSd1T tnSd1L 48) = true := by kernel_rfl
theorem tnSd_run {v : Nat → Nat} {arr : Nat → Nat → Nat → Nat} (ha : AsmV tnSdA v arr) (hb : BndA arr) : Rounds Tryz.prog tnB 6 46 ⟨tnS3T, tnS3L, 53, tnSdA, v, arr⟩ ⟨tnSd1T, tnSd1L, 48, tnSdA, v, arr⟩ := by
  have h1 := Leads.same (fn := 6) (snd tnSdA) tnSd1k ha hb
  exact Rounds.one h1
def tnSdrE : Eqs := [((y 13), (.lit 3)), ((.bin .add .i64 (y 6) (.lit 5)), (.lit 9)), ((.var .u64 30), (.lit 1)), ((.var .u64 9), (.lit 4398046511179)), ((.var .u64 11), (.lit 0)), ((y 5), (y 5)), ((y 5), (.lit 1)), ((.bin .add .i64 (y 14) (.lit 50)), (.bin .add .i64 (y 14) (.lit 50))), ((y 6), (.lit 4))]
def tnSdrR : List RowEq := [⟨1, [.i64, .i64, .i64], (y 5), 1, (y 5), []⟩, ⟨6, [.i64, .i64, .i64, .i64, .i64, .i64, .i64, .i64], (y 13), 6, (.lit 3), []⟩, ⟨8, [.i64], (y 5), 8, (.lit 1), []⟩]
theorem tnSdr_ren : seen [] 46 tnDT tnDL 48 tnSd1T (mkG tnSd1L 48) = some (tnSdrE, tnSdrR) := by kernel_rfl
end Go.Sx
namespace Go.Sx
open Go Go.Proofs
def tnTEb : Asm := [((.cmp .eql .i64 (.conv .u64 .i64 (.bin .shr .u64 (.bin .and .u64 (.var .u64 9) (.lit 7)) (.lit 0))) (.lit 4)), false),
  ((.cmp .eql .i64 (.conv .u64 .i64 (.bin .shr .u64 (.bin .and .u64 (.var .u64 9) (.lit 7)) (.lit 0))) (.lit 2)), false),
  ((.cmp .eql .i64 (.conv .u64 .i64 (.bin .shr .u64 (.bin .and .u64 (.var .u64 9) (.lit 7)) (.lit 0))) (.lit 3)), true),
  ((.cmp .geq .i64 (.conv .u64 .i64 (.bin .shr .u64 (.bin .and .u64 (.var .u64 9) (.lit 7)) (.lit 0))) (.lit 0)), true),
  ((.cmp .leq .i64 (.conv .u64 .i64 (.bin .shr .u64 (.bin .and .u64 (.var .u64 9) (.lit 7)) (.lit 0))) (.lit 4)), true),
  ((.cmp .geq .i64 (.conv .u64 .i64 (.bin .shr .u64 (.bin .and .u64 (.var .u64 9) (.lit 134217720)) (.lit 3))) (.lit 0)), true),
  ((.cmp .leq .i64 (.conv .u64 .i64 (.bin .shr .u64 (.bin .and .u64 (.var .u64 9) (.lit 134217720)) (.lit 3))) (.lit 16777215)), true),
  ((.cmp .geq .i64 (.conv .u64 .i64 (.bin .shr .u64 (.bin .and .u64 (.var .u64 9) (.lit 4397912293376)) (.lit 27))) (.lit 0)), true),
  ((.cmp .leq .i64 (.conv .u64 .i64 (.bin .shr .u64 (.bin .and .u64 (.var .u64 9) (.lit 4397912293376)) (.lit 27))) (.lit 32765)), true),
  ((.cmp .geq .i64 (.conv .u64 .i64 (.bin .shr .u64 (.bin .and .u64 (.var .u64 9) (.lit 1121501860331520)) (.lit 42))) (.lit 1)), true),
  ((.cmp .leq .i64 (.conv .u64 .i64 (.bin .shr .u64 (.bin .and .u64 (.var .u64 9) (.lit 1121501860331520)) (.lit 42))) (.lit 255)), true),
  ((.cmp .gtr .u64 (.conv .i64 .u64 (.conv .u64 .i64 (.bin .shr .u64 (.bin .and .u64 (.var .u64 9) (.lit 7)) (.lit 0)))) (.lit 7)), false),
  ((.cmp .gtr .u64 (.conv .i64 .u64 (.conv .u64 .i64 (.bin .shr .u64 (.bin .and .u64 (.var .u64 9) (.lit 134217720)) (.lit 3)))) (.lit 16777215)), false),
  ((.cmp .gtr .u64 (.conv .i64 .u64 (.conv .u64 .i64 (.bin .shr .u64 (.bin .and .u64 (.var .u64 9) (.lit 4397912293376)) (.lit 27)))) (.lit 32767)), false),
  ((.cmp .gtr .u64 (.conv .i64 .u64 (.conv .u64 .i64 (.bin .shr .u64 (.bin .and .u64 (.var .u64 9) (.lit 1121501860331520)) (.lit 42)))) (.lit 255)), false),
  ((.cmp .neq .u64 (.bin .or .u64 (.bin .andNot .u64 (.bin .or .u64 (.bin .andNot .u64 (.bin .or .u64 (.bin .andNot .u64 (.bin .or .u64 (.lit 0) (.bin .shl .u64 (.conv .i64 .u64 (.conv .u64 .i64 (.bin .shr .u64 (.bin .and .u64 (.var .u64 9) (.lit 7)) (.lit 0)))) (.lit 0))) (.lit 134217720)) (.bin .shl .u64 (.conv .i64 .u64 (.conv .u64 .i64 (.bin .shr .u64 (.bin .and .u64 (.var .u64 9) (.lit 134217720)) (.lit 3)))) (.lit 3))) (.lit 4397912293376)) (.bin .shl .u64 (.conv .i64 .u64 (.conv .u64 .i64 (.bin .shr .u64 (.bin .and .u64 (.var .u64 9) (.lit 4397912293376)) (.lit 27)))) (.lit 27))) (.lit 1121501860331520)) (.bin .shl .u64 (.conv .i64 .u64 (.conv .u64 .i64 (.bin .shr .u64 (.bin .and .u64 (.var .u64 9) (.lit 1121501860331520)) (.lit 42)))) (.lit 42))) (.var .u64 9)), false),
  ((.cmp .eql .i64 (.conv .u64 .i64 (.bin .shr .u64 (.bin .and .u64 (.var .u64 9) (.lit 7)) (.lit 0))) (.lit 0)), false),
  ((.cmp .eql .i64 (.conv .u64 .i64 (.bin .shr .u64 (.bin .and .u64 (.var .u64 9) (.lit 7)) (.lit 0))) (.lit 1)), false),
  ((.cmp .eql .i64 (.conv .u64 .i64 (.bin .shr .u64 (.bin .and .u64 (.var .u64 9) (.lit 4397912293376)) (.lit 27))) (.lit 0)), true),
  ((.cmp .geq .i64 (.conv .u64 .i64 (.bin .shr .u64 (.bin .and .u64 (.var .u64 9) (.lit 1121501860331520)) (.lit 42))) (.lit 255)), false),
  ((.cmp .eql .i64 (.bin .add .i64 (.conv .u64 .i64 (.bin .shr .u64 (.bin .and .u64 (.var .u64 9) (.lit 1121501860331520)) (.lit 42))) (.lit 1)) (.lit 0)), false),
  ((.cmp .geq .i64 (.bin .add .i64 (.conv .u64 .i64 (.bin .shr .u64 (.bin .and .u64 (.var .u64 9) (.lit 1121501860331520)) (.lit 42))) (.lit 1)) (.lit 1)), true),
  ((.cmp .leq .i64 (.bin .add .i64 (.conv .u64 .i64 (.bin .shr .u64 (.bin .and .u64 (.var .u64 9) (.lit 1121501860331520)) (.lit 42))) (.lit 1)) (.lit 255)), true),
  ((.cmp .gtr .u64 (.conv .i64 .u64 (.bin .add .i64 (.conv .u64 .i64 (.bin .shr .u64 (.bin .and .u64 (.var .u64 9) (.lit 1121501860331520)) (.lit 42))) (.lit 1))) (.lit 255)), false),
  ((.cmp .eql .u64 (.bin .or .u64 (.bin .andNot .u64 (.bin .or .u64 (.bin .andNot .u64 (.bin .or .u64 (.lit 3) (.bin .shl .u64 (.conv .i64 .u64 (.conv .u64 .i64 (.bin .shr .u64 (.bin .and .u64 (.var .u64 9) (.lit 134217720)) (.lit 3)))) (.lit 3))) (.lit 4397912293376)) (.lit 0)) (.lit 1121501860331520)) (.bin .shl .u64 (.conv .i64 .u64 (.bin .add .i64 (.conv .u64 .i64 (.bin .shr .u64 (.bin .and .u64 (.var .u64 9) (.lit 1121501860331520)) (.lit 42))) (.lit 1))) (.lit 42))) (.var .u64 10)), true),
  ((.cmp .neq .u64 (.bin .or .u64 (.bin .andNot .u64 (.bin .or .u64 (.bin .andNot .u64 (.bin .or .u64 (.lit 3) (.bin .shl .u64 (.conv .i64 .u64 (.conv .u64 .i64 (.bin .shr .u64 (.bin .and .u64 (.var .u64 9) (.lit 134217720)) (.lit 3)))) (.lit 3))) (.lit 4397912293376)) (.lit 0)) (.lit 1121501860331520)) (.bin .shl .u64 (.conv .i64 .u64 (.conv .u64 .i64 (.bin .shr .u64 (.bin .and .u64 (.var .u64 9) (.lit 1121501860331520)) (.lit 42)))) (.lit 42))) (.var .u64 9)), false),
  ((.cmp .eql .u64 (.var .u64 9) (.var .u64 9)), true)]
def tnTEl : Asm := [((.cmp .lss .i64 (y 6) (.bin .add .i64 (y 14) (.lit 50))), true),
  ((.cmp .lss .i64 (.bin .rem .i64 (y 6) (.lit 1)) (.lit 0)), false),
  ((.cmp .geq .i64 (.bin .rem .i64 (y 6) (.lit 1)) (.lit 1)), false),
  ((.cmp .eql .i64 (.bin .rem .i64 (y 6) (.lit 1)) (.lit 0)), true),
  ((.cmp .lss .u64 (y 4) (y 5)), true),
  ((.cmp .eql .i64 (.sel .i64 1 0 (y 4)) (.lit 0)), true),
  ((.cmp .lss .i64 (.bin .add .i64 (y 6) (.lit 1)) (.bin .add .i64 (y 14) (.lit 50))), true),
  ((.cmp .lss .i64 (.bin .rem .i64 (.bin .add .i64 (y 6) (.lit 1)) (.lit 1)) (.lit 0)), false),
  ((.cmp .geq .i64 (.bin .rem .i64 (.bin .add .i64 (y 6) (.lit 1)) (.lit 1)) (.lit 1)), false),
  ((.cmp .eql .i64 (.bin .rem .i64 (.bin .add .i64 (y 6) (.lit 1)) (.lit 1)) (.lit 0)), true),
  ((.cmp .lss .i64 (.bin .add .i64 (.sel .i64 1 1 (y 4)) (.lit 2)) (.lit 0)), false),
  ((.cmp .geq .i64 (.bin .add .i64 (.sel .i64 1 1 (y 4)) (.lit 2)) (.lit 18)), false),
  ((.cmp .eql .i64 (.bin .add .i64 (.sel .i64 1 1 (y 4)) (.lit 2)) (.lit 2)), true),
  ((.cmp .lss .i64 (.bin .add .i64 (y 6) (.lit 2)) (.bin .add .i64 (y 14) (.lit 50))), true),
  ((.cmp .lss .i64 (.bin .rem .i64 (.bin .add .i64 (y 6) (.lit 2)) (.lit 1)) (.lit 0)), false),
  ((.cmp .geq .i64 (.bin .rem .i64 (.bin .add .i64 (y 6) (.lit 2)) (.lit 1)) (.lit 1)), false),
  ((.cmp .eql .i64 (.bin .rem .i64 (.bin .add .i64 (y 6) (.lit 2)) (.lit 1)) (.lit 0)), true),
  ((.cmp .lss .u64 (.bin .add .i64 (y 13) (.lit 1)) (.lit 1048576)), true),
  ((.cmp .eql .i64 (.sel .i64 6 0 (.bin .add .i64 (y 13) (.lit 1))) (.lit 1)), true),
  ((.cmp .eql .i64 (.sel .i64 6 1 (.bin .add .i64 (y 13) (.lit 1))) (.lit 0)), true),
  ((.cmp .eql .i64 (.sel .i64 6 2 (.bin .add .i64 (y 13) (.lit 1))) (.lit 0)), true),
  ((.cmp .eql .i64 (.sel .i64 6 3 (.bin .add .i64 (y 13) (.lit 1))) (.lit 0)), true),
  ((.cmp .eql .i64 (.sel .i64 6 4 (.bin .add .i64 (y 13) (.lit 1))) (.sel .i64 1 1 (y 4))), true),
  ((.cmp .eql .i64 (.sel .i64 6 5 (.bin .add .i64 (y 13) (.lit 1))) (.lit 0)), true),
  ((.cmp .eql .i64 (.sel .i64 6 6 (.bin .add .i64 (y 13) (.lit 1))) (.lit 0)), true),
  ((.cmp .eql .i64 (.sel .i64 6 7 (.bin .add .i64 (y 13) (.lit 1))) (.lit 0)), true)]
noncomputable def tnTEA : Asm := lapp tnTEb tnTEl
theorem tnTEA_eq : tnTEA = tnTEb ++ tnTEl := by kernel_rfl
noncomputable def tnTE1T : Tr AV := mkT [(0, p 13), (1, .int .i64 (.bin .add .i64 (y 14) (.lit 50))), (5, .int .i64 (.bin .add .i64 (y 6) (.lit 1)))]
def tnTE1L : List (Nat × AO) := [(0, c [i6 1, i6 2, i6 1, p 1, p 2, .int .i32 (.lit 0), .int .u32 (.lit 0), .slice 46 0 (.bin .add .i64 (y 13) (.lit 1)) (.room 8)]), (1, c [.iface 174 (.slice 3 0 (.lit 18) (.known 18)), .int .i64 (.bin .add .i64 (y 6) (.lit 6))]), (2, c [.slice 4 0 (.lit 1) (.known 1)]), (3, c [u6 0, .int .u64 (.var .u64 30), .int .u64 (.var .u64 9), u6 134217721, u6 0, u6 0, u6 0, u6 0, u6 0, u6 0, u6 0, .int .u64 (.var .u64 11), u6 0, u6 0, u6 0, u6 0, u6 0, u6 0]), (4, c [.chan 5]), (5, .chan 1 []), (6, .rows 1 [.i64, .i64, .i64] (y 5) []), (8, c [p 0]), (9, .map [(i6 0, .agg [.func 18 [] [], .func 19 [] [], .bool (.lit true)]), (i6 1, .agg [.func 20 [] [], .func 21 [] [], .bool (.lit false)]), (i6 7, .agg [.func 22 [] [], .func 23 [] [], .bool (.lit false)])]), (10, c [.map 9]), (11, c [p 0]), (12, c [.func 25 [] [p 8, p 10]]), (13, c [.slice 45 0 (.lit 1) (.room 1)]), (14, c [i6 0]), (15, c [.slice 6 0 (y 5) (.room 3)]), (43, c [p 47, .func 94 [] [p 15, p 11, p 14, p 12], .slice 48 0 (y 4) (.room 1)]), (45, c [p 43]), (46, .rows 6 [.i64, .i64, .i64, .i64, .i64, .i64, .i64, .i64] (.bin .add .i64 (y 13) (.lit 1)) []), (47, c [p 49, i6 0, .slice 50 0 (.lit 5) (.known 5)]), (48, .rows 8 [.i64] (y 4) []), (49, c [.func 135 [] [p 51, p 52, p 53], .ptr0, i6 0, .bool (.lit false)]), (50, c [.func 138 [] [p 52, p 54, p 51], .func 102 [] [p 55], .func 103 [] [p 56], .func 102 [] [p 57], .func 98 [] [p 11, p 14, p 58]]), (51, c [p 0, i6 0, .int .i64 (.sel .i64 1 1 (y 4))]), (52, c [u6 0]), (53, c [.func 51 [] []]), (54, c [.func 52 [] [p 59]]), (55, c [.func 49 [] [p 59]]), (56, c [p 0, i6 0, .int .i64 (.sel .i64 1 1 (y 4)), .func 18 [] [], .func 19 [] [], .bool (.lit true)]), (57, c [.func 27 [.agg [p 0, i6 0, .int .i64 (.sel .i64 1 1 (y 4)), .func 18 [] [], .func 19 [] [], .bool (.lit true)]] []]), (58, c [.int .i64 (y 4)]), (59, c [p 0, i6 0, .int .i64 (.sel .i64 1 1 (y 4))])]
theorem tnTE1k : stepOK tnTEA (stepChk (ev tab tnTEA 1000000) tnB 6 .normal tnKT tnKL 61 [(59, 80), (58, 56), (57, 78), (56, 79), (55, 81), (54, 84), (53, 83), (52, 85), (51, 82), (50, 101), (49, 86)] 46 tnTE1T tnTE1L 60) = true := by kernel_rfl
noncomputable def tnTE2T : Tr AV := mkT [(0, p 13), (1, .int .i64 (.bin .add .i64 (y 14) (.lit 50))), (5, .int .i64 (.bin .add .i64 (y 6) (.lit 2)))]
def tnTE2L : List (Nat × AO) := [(0, c [i6 1, i6 2, i6 1, p 1, p 2, .int .i32 (.lit 0), .int .u32 (.lit 0), .slice 46 0 (.bin .add .i64 (y 13) (.lit 1)) (.room 8)]), (1, c [.iface 174 (.slice 3 0 (.lit 18) (.known 18)), .int .i64 (.bin .add .i64 (y 6) (.lit 7))]), (2, c [.slice 4 0 (.lit 1) (.known 1)]), (3, c [u6 0, .int .u64 (.var .u64 30), .int .u64 (.var .u64 9), u6 134217721, u6 0, u6 0, u6 0, u6 0, u6 0, u6 0, u6 0, .int .u64 (.var .u64 11), u6 0, u6 0, u6 0, u6 0, u6 0, u6 0]), (4, c [.chan 5]), (5, .chan 1 []), (6, .rows 1 [.i64, .i64, .i64] (y 5) []), (8, c [p 0]), (9, .map [(i6 0, .agg [.func 18 [] [], .func 19 [] [], .bool (.lit true)]), (i6 1, .agg [.func 20 [] [], .func 21 [] [], .bool (.lit false)]), (i6 7, .agg [.func 22 [] [], .func 23 [] [], .bool (.lit false)])]), (10, c [.map 9]), (11, c [p 0]), (12, c [.func 25 [] [p 8, p 10]]), (13, c [.slice 45 0 (.lit 1) (.room 1)]), (14, c [i6 0]), (15, c [.slice 6 0 (y 5) (.room 3)]), (43, c [p 47, .func 94 [] [p 15, p 11, p 14, p 12], .slice 48 0 (y 4) (.room 1)]), (45, c [p 43]), (46, .rows 6 [.i64, .i64, .i64, .i64, .i64, .i64, .i64, .i64] (.bin .add .i64 (y 13) (.lit 1)) []), (47, c [p 49, i6 0, .slice 50 0 (.lit 5) (.room 1)]), (48, .rows 8 [.i64] (y 4) []), (49, c [.func 139 [] [p 51, p 52, p 53, p 54], .ptr0, i6 0, .bool (.lit false)]), (50, c [.func 141 [] [], .func 102 [] [p 55], .func 103 [] [p 56], .func 102 [] [p 57], .func 98 [] [p 11, p 14, p 58]]), (51, c [p 0, i6 0, .int .i64 (.sel .i64 1 1 (y 4))]), (52, c [.int .u64 (.var .u64 9)]), (53, c [.int .u64 (.var .u64 10)]), (54, c [i6 0]), (55, c [.func 49 [] [p 59]]), (56, c [p 0, i6 0, .int .i64 (.sel .i64 1 1 (y 4)), .func 18 [] [], .func 19 [] [], .bool (.lit true)]), (57, c [.func 27 [.agg [p 0, i6 0, .int .i64 (.sel .i64 1 1 (y 4)), .func 18 [] [], .func 19 [] [], .bool (.lit true)]] []]), (58, c [.int .i64 (y 4)]), (59, c [p 0, i6 0, .int .i64 (.sel .i64 1 1 (y 4))])]
theorem tnTE2k : stepOK tnTEA (stepChk (ev tab tnTEA 1000000) tnB 6 .normal tnTE1T tnTE1L 60 [(54, 672), (53, 671), (52, 670), (51, 669), (50, 678), (49, 673)] 46 tnTE2T tnTE2L 60) = true := by kernel_rfl
noncomputable def tnTE3T : Tr AV := mkT [(0, p 13), (1, .int .i64 (.bin .add .i64 (y 14) (.lit 50))), (5, .int .i64 (.bin .add .i64 (y 6) (.lit 3)))]
def tnTE3L : List (Nat × AO) := [(0, c [i6 1, i6 2, i6 1, p 1, p 2, .int .i32 (.lit 0), .int .u32 (.lit 0), .slice 46 0 (.bin .add .i64 (y 13) (.lit 2)) (.room 8)]), (1, c [.iface 174 (.slice 3 0 (.lit 18) (.known 18)), .int .i64 (.bin .add .i64 (y 6) (.lit 8))]), (2, c [.slice 4 0 (.lit 1) (.known 1)]), (3, c [u6 0, .int .u64 (.var .u64 30), .int .u64 (.var .u64 10), u6 134217721, u6 0, u6 0, u6 0, u6 0, u6 0, u6 0, u6 0, .int .u64 (.var .u64 11), u6 0, u6 0, u6 0, u6 0, u6 0, u6 0]), (4, c [.chan 5]), (5, .chan 1 []), (6, .rows 1 [.i64, .i64, .i64] (y 5) []), (8, c [p 0]), (9, .map [(i6 0, .agg [.func 18 [] [], .func 19 [] [], .bool (.lit true)]), (i6 1, .agg [.func 20 [] [], .func 21 [] [], .bool (.lit false)]), (i6 7, .agg [.func 22 [] [], .func 23 [] [], .bool (.lit false)])]), (10, c [.map 9]), (11, c [p 0]), (12, c [.func 25 [] [p 8, p 10]]), (13, c [.slice 45 0 (.lit 1) (.room 1)]), (14, c [i6 0]), (15, c [.slice 6 0 (y 5) (.room 3)]), (43, c [p 47, .func 94 [] [p 15, p 11, p 14, p 12], .slice 48 0 (y 4) (.room 1)]), (45, c [p 43]), (46, .rows 6 [.i64, .i64, .i64, .i64, .i64, .i64, .i64, .i64] (.bin .add .i64 (y 13) (.lit 2)) []), (47, c [p 49, i6 0, .slice 50 0 (.lit 1) (.known 1)]), (48, .rows 8 [.i64] (y 4) []), (49, c [.func 225 [] [p 51, p 52, p 53], .ptr0, i6 0, .bool (.lit false)]), (50, c [.func 100 [] [p 11, p 14, p 54, p 55]]), (51, c [p 1]), (52, c [i6 8]), (53, c [u6 1]), (54, c [.int .i64 (y 4)]), (55, c [i6 0])]
theorem tnTE3k : stepOK tnTEA (stepChk (ev tab tnTEA 1000000) tnB 6 .normal tnTE2T tnTE2L 60 [(55, 83), (54, 58), (53, 88), (52, 87), (51, 86), (50, 92), (49, 89), (46, 75)] 46 tnTE3T tnTE3L 56) = true := by kernel_rfl
theorem tnTE_run {v : Nat → Nat} {arr : Nat → Nat → Nat → Nat} (ha : AsmV tnTEA v arr) (hb : BndA arr) : Rounds Tryz.prog tnB 6 46 ⟨tnKT, tnKL, 61, tnTEA, v, arr⟩ ⟨tnTE3T, tnTE3L, 56, tnTEA, v, arr⟩ := by
  have h1 := Leads.same (fn := 6) (snd tnTEA) tnTE1k ha hb
  have h2 := Leads.same (fn := 6) (snd tnTEA) tnTE2k ha hb
  have h3 := Leads.same (fn := 6) (snd tnTEA) tnTE3k ha hb
  exact .step h1 (.step h2 (Rounds.one h3))
def tnTEkb : Asm := []
def tnTEkl : Asm := [((.cmp .lss .i64 (.bin .add .i64 (y 6) (.lit 3)) (.bin .add .i64 (y 14) (.lit 50))), true),
  ((.cmp .lss .i64 (.bin .rem .i64 (.bin .add .i64 (y 6) (.lit 3)) (.lit 1)) (.lit 0)), false),
  ((.cmp .geq .i64 (.bin .rem .i64 (.bin .add .i64 (y 6) (.lit 3)) (.lit 1)) (.lit 1)), false),
  ((.cmp .eql .i64 (.bin .rem .i64 (.bin .add .i64 (y 6) (.lit 3)) (.lit 1)) (.lit 0)), true),
  ((.cmp .lss .u64 (.bin .add .i64 (y 13) (.lit 2)) (.lit 1048576)), true),
  ((.cmp .lss .u64 (y 4) (.lit 1048576)), true),
  ((.cmp .geq .i64 (.bin .add .i64 (y 4) (.lit 1)) (y 5)), false),
  ((.cmp .lss .u64 (.bin .add .i64 (y 4) (.lit 1)) (y 5)), true),
  ((.cmp .eql .i64 (.sel .i64 6 0 (.bin .add .i64 (y 13) (.lit 2))) (.lit 2)), true),
  ((.cmp .eql .i64 (.sel .i64 6 1 (.bin .add .i64 (y 13) (.lit 2))) (.lit 0)), true),
  ((.cmp .eql .i64 (.sel .i64 6 2 (.bin .add .i64 (y 13) (.lit 2))) (y 4)), true),
  ((.cmp .eql .i64 (.sel .i64 6 3 (.bin .add .i64 (y 13) (.lit 2))) (.lit 0)), true),
  ((.cmp .eql .i64 (.sel .i64 6 4 (.bin .add .i64 (y 13) (.lit 2))) (.lit 0)), true),
  ((.cmp .eql .i64 (.sel .i64 6 5 (.bin .add .i64 (y 13) (.lit 2))) (.lit 0)), true),
  ((.cmp .eql .i64 (.sel .i64 6 6 (.bin .add .i64 (y 13) (.lit 2))) (.lit 0)), true),
  ((.cmp .eql .i64 (.sel .i64 6 7 (.bin .add .i64 (y 13) (.lit 2))) (.lit 0)), true),
  ((.cmp .eql .i64 (.sel .i64 6 0 (.bin .add .i64 (y 13) (.lit 3))) (.lit 0)), true),
  ((.cmp .eql .i64 (.sel .i64 6 1 (.bin .add .i64 (y 13) (.lit 3))) (.lit 0)), true),
  ((.cmp .eql .i64 (.sel .i64 6 2 (.bin .add .i64 (y 13) (.lit 3))) (.bin .add .i64 (y 4) (.lit 1))), true),
  ((.cmp .eql .i64 (.sel .i64 6 3 (.bin .add .i64 (y 13) (.lit 3))) (.sel .i64 1 0 (.bin .add .i64 (y 4) (.lit 1)))), true),
  ((.cmp .eql .i64 (.sel .i64 6 4 (.bin .add .i64 (y 13) (.lit 3))) (.sel .i64 1 1 (.bin .add .i64 (y 4) (.lit 1)))), true),
  ((.cmp .eql .i64 (.sel .i64 6 5 (.bin .add .i64 (y 13) (.lit 3))) (.sel .i64 1 2 (.bin .add .i64 (y 4) (.lit 1)))), true),
  ((.cmp .eql .i64 (.sel .i64 6 6 (.bin .add .i64 (y 13) (.lit 3))) (.lit 0)), true),
  ((.cmp .eql .i64 (.sel .i64 6 7 (.bin .add .i64 (y 13) (.lit 3))) (.lit 0)), true),
  ((.cmp .eql .i64 (.sel .i64 8 0 (y 4)) (.lit 0)), true)]
noncomputable def tnTEkA : Asm := lapp tnTEkb tnTEkl
theorem tnTEkA_eq : tnTEkA = tnTEkb ++ tnTEkl := by kernel_rfl
noncomputable def tnTEk1T : Tr AV := mkT [(0, p 13), (1, .int .i64 (.bin .add .i64 (y 14) (.lit 50))), (5, .int .i64 (.bin .add .i64 (y 6) (.lit 4)))]
def tnTEk1L : List (Nat × AO) := [(0, c [i6 1, i6 2, i6 1, p 1, p 2, .int .i32 (.lit 0), .int .u32 (.lit 0), .slice 46 0 (.bin .add .i64 (y 13) (.lit 4)) (.room 8)]), (1, c [.iface 174 (.slice 3 0 (.lit 18) (.known 18)), .int .i64 (.bin .add .i64 (y 6) (.lit 9))]), (2, c [.slice 4 0 (.lit 1) (.known 1)]), (3, c [u6 0, .int .u64 (.var .u64 30), .int .u64 (.var .u64 10), u6 134217721, u6 0, u6 0, u6 0, u6 0, u6 1, u6 0, u6 0, .int .u64 (.var .u64 11), u6 0, u6 0, u6 0, u6 0, u6 0, u6 0]), (4, c [.chan 5]), (5, .chan 1 []), (6, .rows 1 [.i64, .i64, .i64] (y 5) []), (8, c [p 0]), (9, .map [(i6 0, .agg [.func 18 [] [], .func 19 [] [], .bool (.lit true)]), (i6 1, .agg [.func 20 [] [], .func 21 [] [], .bool (.lit false)]), (i6 7, .agg [.func 22 [] [], .func 23 [] [], .bool (.lit false)])]), (10, c [.map 9]), (11, c [p 0]), (12, c [.func 25 [] [p 8, p 10]]), (13, c [.slice 45 0 (.lit 1) (.room 1)]), (14, c [i6 0]), (15, c [.slice 6 0 (y 5) (.room 3)]), (43, c [p 47, .func 94 [] [p 15, p 11, p 14, p 12], .slice 48 0 (.bin .add .i64 (y 4) (.lit 1)) (.room 1)]), (45, c [p 43]), (46, .rows 6 [.i64, .i64, .i64, .i64, .i64, .i64, .i64, .i64] (.bin .add .i64 (y 13) (.lit 4)) []), (47, c [p 49, i6 0, .slice 50 0 (.lit 3) (.room 1)]), (48, .rows 8 [.i64] (.bin .add .i64 (y 4) (.lit 1)) []), (49, c [.func 239 [] [p 51, p 52, p 53, p 54], .ptr0, i6 0, .bool (.lit false)]), (50, c [.func 224 [] [], .func 102 [] [p 55], .func 97 [] [p 12, p 14, p 15, p 56, p 11]]), (51, c [p 1]), (52, c [i6 8]), (53, c [u6 1]), (54, c [u6 0]), (55, c [.func 223 [] [p 57, p 58, p 59, p 60]]), (56, c [.int .i64 (.bin .add .i64 (y 4) (.lit 1))]), (57, c [p 1]), (58, c [i6 8]), (59, c [u6 1]), (60, c [u6 0])]
theorem tnTEk1k : stepOK tnTEkA (stepChk (ev tab tnTEkA 1000000) tnB 6 .normal tnTE3T tnTE3L 56 [(60, 84), (59, 83), (58, 82), (57, 81), (56, 74), (55, 85), (54, 89), (53, 88), (52, 87), (51, 86), (50, 99), (49, 90), (48, 73), (47, 100), (46, 78)] 46 tnTEk1T tnTEk1L 61) = true := by kernel_rfl
theorem tnTEk_run {v : Nat → Nat} {arr : Nat → Nat → Nat → Nat} (ha : AsmV tnTEkA v arr) (hb : BndA arr) : Rounds Tryz.prog tnB 6 46 ⟨tnTE3T, tnTE3L, 56, tnTEkA, v, arr⟩ ⟨tnTEk1T, tnTEk1L, 61, tnTEkA, v, arr⟩ := by
  have h1 := Leads.same (fn := 6) (snd tnTEkA) tnTEk1k ha hb
  exact Rounds.one h1
def tnTEkrE : Eqs := [((.bin .add .i64 (y 13) (.lit 1)), (.bin .add .i64 (y 13) (.lit 4))), ((.bin .add .i64 (y 6) (.lit 5)), (.bin .add .i64 (y 6) (.lit 9))), ((.var .u64 30), (.var .u64 30)), ((.var .u64 9), (.var .u64 10)), ((.var .u64 11), (.var .u64 11)), ((y 5), (y 5)), ((y 4), (.bin .add .i64 (y 4) (.lit 1))), ((y 4), (.bin .add .i64 (y 4) (.lit 1))), ((.bin .add .i64 (y 14) (.lit 50)), (.bin .add .i64 (y 14) (.lit 50))), ((y 6), (.bin .add .i64 (y 6) (.lit 4)))]
def tnTEkrR : List RowEq := [⟨1, [.i64, .i64, .i64], (y 5), 1, (y 5), []⟩, ⟨6, [.i64, .i64, .i64, .i64, .i64, .i64, .i64, .i64], (.bin .add .i64 (y 13) (.lit 1)), 6, (.bin .add .i64 (y 13) (.lit 4)), []⟩, ⟨8, [.i64], (y 4), 8, (.bin .add .i64 (y 4) (.lit 1)), []⟩]
theorem tnTEkr_ren : seen [] 46 tnKT tnKL 61 tnTEk1T (mkG tnTEk1L 61) = some (tnTEkrE, tnTEkrR) := by kernel_rfl
def tnTEdb : Asm := []
def tnTEdl : Asm := [((.cmp .lss .i64 (.bin .add .i64 (y 6) (.lit 3)) (.bin .add .i64 (y 14) (.lit 50))), true),
  ((.cmp .lss .i64 (.bin .rem .i64 (.bin .add .i64 (y 6) (.lit 3)) (.lit 1)) (.lit 0)), false),
  ((.cmp .geq .i64 (.bin .rem .i64 (.bin .add .i64 (y 6) (.lit 3)) (.lit 1)) (.lit 1)), false),
  ((.cmp .eql .i64 (.bin .rem .i64 (.bin .add .i64 (y 6) (.lit 3)) (.lit 1)) (.lit 0)), true),
  ((.cmp .lss .u64 (.bin .add .i64 (y 13) (.lit 2)) (.lit 1048576)), true),
  ((.cmp .lss .u64 (y 4) (.lit 1048576)), true),
  ((.cmp .geq .i64 (.bin .add .i64 (y 4) (.lit 1)) (y 5)), true),
  ((.cmp .eql .i64 (.sel .i64 6 0 (.bin .add .i64 (y 13) (.lit 2))) (.lit 2)), true),
  ((.cmp .eql .i64 (.sel .i64 6 1 (.bin .add .i64 (y 13) (.lit 2))) (.lit 0)), true),
  ((.cmp .eql .i64 (.sel .i64 6 2 (.bin .add .i64 (y 13) (.lit 2))) (y 4)), true),
  ((.cmp .eql .i64 (.sel .i64 6 3 (.bin .add .i64 (y 13) (.lit 2))) (.lit 0)), true),
  ((.cmp .eql .i64 (.sel .i64 6 4 (.bin .add .i64 (y 13) (.lit 2))) (.lit 0)), true),
  ((.cmp .eql .i64 (.sel .i64 6 5 (.bin .add .i64 (y 13) (.lit 2))) (.lit 0)), true),
  ((.cmp .eql .i64 (.sel .i64 6 6 (.bin .add .i64 (y 13) (.lit 2))) (.lit 0)), true),
  ((.cmp .eql .i64 (.sel .i64 6 7 (.bin .add .i64 (y 13) (.lit 2))) (.lit 0)), true),
  ((.cmp .eql .i64 (.sel .i64 8 0 (y 4)) (.lit 0)), true)]
noncomputable def tnTEdA : Asm := lapp tnTEdb tnTEdl
theorem tnTEdA_eq : tnTEdA = tnTEdb ++ tnTEdl := by kernel_rfl
noncomputable def tnTEd1T : Tr AV := mkT [(0, p 13), (1, .int .i64 (.bin .add .i64 (y 14) (.lit 50))), (5, .int .i64 (.bin .add .i64 (y 6) (.lit 4)))]
def tnTEd1L : List (Nat × AO) := [(0, c [i6 1, i6 2, i6 1, p 1, p 2, .int .i32 (.lit 0), .int .u32 (.lit 0), .slice 46 0 (.bin .add .i64 (y 13) (.lit 3)) (.room 8)]), (1, c [.iface 174 (.slice 3 0 (.lit 18) (.known 18)), .int .i64 (.bin .add .i64 (y 6) (.lit 9))]), (2, c [.slice 4 0 (.lit 1) (.known 1)]), (3, c [u6 0, .int .u64 (.var .u64 30), .int .u64 (.var .u64 10), u6 134217721, u6 0, u6 0, u6 0, u6 0, u6 1, u6 0, u6 0, .int .u64 (.var .u64 11), u6 0, u6 0, u6 0, u6 0, u6 0, u6 0]), (4, c [.chan 5]), (5, .chan 1 []), (6, .rows 1 [.i64, .i64, .i64] (y 5) []), (8, c [p 0]), (9, .map [(i6 0, .agg [.func 18 [] [], .func 19 [] [], .bool (.lit true)]), (i6 1, .agg [.func 20 [] [], .func 21 [] [], .bool (.lit false)]), (i6 7, .agg [.func 22 [] [], .func 23 [] [], .bool (.lit false)])]), (10, c [.map 9]), (11, c [p 0]), (12, c [.func 25 [] [p 8, p 10]]), (13, c [.slice 45 0 (.lit 1) (.room 1)]), (14, c [i6 0]), (15, c [.slice 6 0 (y 5) (.room 3)]), (43, c [.ptr0, .func 94 [] [p 15, p 11, p 14, p 12], .slice 47 0 (.bin .add .i64 (y 4) (.lit 1)) (.room 1)]), (45, c [p 43]), (46, .rows 6 [.i64, .i64, .i64, .i64, .i64, .i64, .i64, .i64] (.bin .add .i64 (y 13) (.lit 3)) []), (47, .rows 8 [.i64] (.bin .add .i64 (y 4) (.lit 1)) [])]
theorem tnTEd1k : stepOK tnTEdA (stepChk (ev tab tnTEdA 1000000) tnB 6 .normal tnTE3T tnTE3L 56 [(47, 73), (46, 70)] 46 tnTEd1T tnTEd1L 48) = true := by kernel_rfl
theorem tnTEd_run {v : Nat → Nat} {arr : Nat → Nat → Nat → Nat} (ha : AsmV tnTEdA v arr) (hb : BndA arr) : Rounds Tryz.prog tnB 6 46 ⟨tnTE3T, tnTE3L, 56, tnTEdA, v, arr⟩ ⟨tnTEd1T, tnTEd1L, 48, tnTEdA, v, arr⟩ := by
  have h1 := Leads.same (fn := 6) (snd tnTEdA) tnTEd1k ha hb
  exact Rounds.one h1
def tnTEdrE : Eqs := [((y 13), (.bin .add .i64 (y 13) (.lit 3))), ((.bin .add .i64 (y 6) (.lit 5)), (.bin .add .i64 (y 6) (.lit 9))), ((.var .u64 30), (.var .u64 30)), ((.var .u64 9), (.var .u64 10)), ((.var .u64 11), (.var .u64 11)), ((y 5), (y 5)), ((y 5), (.bin .add .i64 (y 4) (.lit 1))), ((.bin .add .i64 (y 14) (.lit 50)), (.bin .add .i64 (y 14) (.lit 50))), ((y 6), (.bin .add .i64 (y 6) (.lit 4)))]
def tnTEdrR : List RowEq := [⟨1, [.i64, .i64, .i64], (y 5), 1, (y 5), []⟩, ⟨6, [.i64, .i64, .i64, .i64, .i64, .i64, .i64, .i64], (y 13), 6, (.bin .add .i64 (y 13) (.lit 3)), []⟩, ⟨8, [.i64], (y 5), 8, (.bin .add .i64 (y 4) (.lit 1)), []⟩]
theorem tnTEdr_ren : seen [] 46 tnDT tnDL 48 tnTEd1T (mkG tnTEd1L 48) = some (tnTEdrE, tnTEdrR) := by kernel_rfl
end Go.Sx
namespace Go.Sx
open Go Go.Proofs
def tnTXb : Asm := [((.cmp .eql .i64 (.conv .u64 .i64 (.bin .shr .u64 (.bin .and .u64 (.var .u64 9) (.lit 7)) (.lit 0))) (.lit 4)), false),
  ((.cmp .eql .i64 (.conv .u64 .i64 (.bin .shr .u64 (.bin .and .u64 (.var .u64 9) (.lit 7)) (.lit 0))) (.lit 2)), false),
  ((.cmp .eql .i64 (.conv .u64 .i64 (.bin .shr .u64 (.bin .and .u64 (.var .u64 9) (.lit 7)) (.lit 0))) (.lit 3)), true),
  ((.cmp .geq .i64 (.conv .u64 .i64 (.bin .shr .u64 (.bin .and .u64 (.var .u64 9) (.lit 7)) (.lit 0))) (.lit 0)), true),
  ((.cmp .leq .i64 (.conv .u64 .i64 (.bin .shr .u64 (.bin .and .u64 (.var .u64 9) (.lit 7)) (.lit 0))) (.lit 4)), true),
  ((.cmp .geq .i64 (.conv .u64 .i64 (.bin .shr .u64 (.bin .and .u64 (.var .u64 9) (.lit 134217720)) (.lit 3))) (.lit 0)), true),
  ((.cmp .leq .i64 (.conv .u64 .i64 (.bin .shr .u64 (.bin .and .u64 (.var .u64 9) (.lit 134217720)) (.lit 3))) (.lit 16777215)), true),
  ((.cmp .geq .i64 (.conv .u64 .i64 (.bin .shr .u64 (.bin .and .u64 (.var .u64 9) (.lit 4397912293376)) (.lit 27))) (.lit 0)), true),
  ((.cmp .leq .i64 (.conv .u64 .i64 (.bin .shr .u64 (.bin .and .u64 (.var .u64 9) (.lit 4397912293376)) (.lit 27))) (.lit 32765)), true),
  ((.cmp .geq .i64 (.conv .u64 .i64 (.bin .shr .u64 (.bin .and .u64 (.var .u64 9) (.lit 1121501860331520)) (.lit 42))) (.lit 1)), true),
  ((.cmp .leq .i64 (.conv .u64 .i64 (.bin .shr .u64 (.bin .and .u64 (.var .u64 9) (.lit 1121501860331520)) (.lit 42))) (.lit 255)), true),
  ((.cmp .gtr .u64 (.conv .i64 .u64 (.conv .u64 .i64 (.bin .shr .u64 (.bin .and .u64 (.var .u64 9) (.lit 7)) (.lit 0)))) (.lit 7)), false),
  ((.cmp .gtr .u64 (.conv .i64 .u64 (.conv .u64 .i64 (.bin .shr .u64 (.bin .and .u64 (.var .u64 9) (.lit 134217720)) (.lit 3)))) (.lit 16777215)), false),
  ((.cmp .gtr .u64 (.conv .i64 .u64 (.conv .u64 .i64 (.bin .shr .u64 (.bin .and .u64 (.var .u64 9) (.lit 4397912293376)) (.lit 27)))) (.lit 32767)), false),
  ((.cmp .gtr .u64 (.conv .i64 .u64 (.conv .u64 .i64 (.bin .shr .u64 (.bin .and .u64 (.var .u64 9) (.lit 1121501860331520)) (.lit 42)))) (.lit 255)), false),
  ((.cmp .neq .u64 (.bin .or .u64 (.bin .andNot .u64 (.bin .or .u64 (.bin .andNot .u64 (.bin .or .u64 (.bin .andNot .u64 (.bin .or .u64 (.lit 0) (.bin .shl .u64 (.conv .i64 .u64 (.conv .u64 .i64 (.bin .shr .u64 (.bin .and .u64 (.var .u64 9) (.lit 7)) (.lit 0)))) (.lit 0))) (.lit 134217720)) (.bin .shl .u64 (.conv .i64 .u64 (.conv .u64 .i64 (.bin .shr .u64 (.bin .and .u64 (.var .u64 9) (.lit 134217720)) (.lit 3)))) (.lit 3))) (.lit 4397912293376)) (.bin .shl .u64 (.conv .i64 .u64 (.conv .u64 .i64 (.bin .shr .u64 (.bin .and .u64 (.var .u64 9) (.lit 4397912293376)) (.lit 27)))) (.lit 27))) (.lit 1121501860331520)) (.bin .shl .u64 (.conv .i64 .u64 (.conv .u64 .i64 (.bin .shr .u64 (.bin .and .u64 (.var .u64 9) (.lit 1121501860331520)) (.lit 42)))) (.lit 42))) (.var .u64 9)), false),
  ((.cmp .eql .i64 (.conv .u64 .i64 (.bin .shr .u64 (.bin .and .u64 (.var .u64 9) (.lit 7)) (.lit 0))) (.lit 0)), false),
  ((.cmp .eql .i64 (.conv .u64 .i64 (.bin .shr .u64 (.bin .and .u64 (.var .u64 9) (.lit 7)) (.lit 0))) (.lit 1)), false),
  ((.cmp .eql .i64 (.conv .u64 .i64 (.bin .shr .u64 (.bin .and .u64 (.var .u64 9) (.lit 4397912293376)) (.lit 27))) (.lit 0)), true),
  ((.cmp .eql .i64 (.bin .add .i64 (.conv .u64 .i64 (.bin .shr .u64 (.bin .and .u64 (.var .u64 9) (.lit 1121501860331520)) (.lit 42))) (.lit 18446744073709551615)) (.lit 0)), false),
  ((.cmp .geq .i64 (.bin .add .i64 (.conv .u64 .i64 (.bin .shr .u64 (.bin .and .u64 (.var .u64 9) (.lit 1121501860331520)) (.lit 42))) (.lit 18446744073709551615)) (.lit 1)), true),
  ((.cmp .leq .i64 (.bin .add .i64 (.conv .u64 .i64 (.bin .shr .u64 (.bin .and .u64 (.var .u64 9) (.lit 1121501860331520)) (.lit 42))) (.lit 18446744073709551615)) (.lit 255)), true),
  ((.cmp .gtr .u64 (.conv .i64 .u64 (.bin .add .i64 (.conv .u64 .i64 (.bin .shr .u64 (.bin .and .u64 (.var .u64 9) (.lit 1121501860331520)) (.lit 42))) (.lit 18446744073709551615))) (.lit 255)), false),
  ((.cmp .eql .u64 (.bin .or .u64 (.bin .andNot .u64 (.bin .or .u64 (.bin .andNot .u64 (.bin .or .u64 (.lit 3) (.bin .shl .u64 (.conv .i64 .u64 (.conv .u64 .i64 (.bin .shr .u64 (.bin .and .u64 (.var .u64 9) (.lit 134217720)) (.lit 3)))) (.lit 3))) (.lit 4397912293376)) (.lit 0)) (.lit 1121501860331520)) (.bin .shl .u64 (.conv .i64 .u64 (.bin .add .i64 (.conv .u64 .i64 (.bin .shr .u64 (.bin .and .u64 (.var .u64 9) (.lit 1121501860331520)) (.lit 42))) (.lit 18446744073709551615))) (.lit 42))) (.var .u64 10)), true),
  ((.cmp .neq .u64 (.bin .or .u64 (.bin .andNot .u64 (.bin .or .u64 (.bin .andNot .u64 (.bin .or .u64 (.lit 3) (.bin .shl .u64 (.conv .i64 .u64 (.conv .u64 .i64 (.bin .shr .u64 (.bin .and .u64 (.var .u64 9) (.lit 134217720)) (.lit 3)))) (.lit 3))) (.lit 4397912293376)) (.lit 0)) (.lit 1121501860331520)) (.bin .shl .u64 (.conv .i64 .u64 (.conv .u64 .i64 (.bin .shr .u64 (.bin .and .u64 (.var .u64 9) (.lit 1121501860331520)) (.lit 42)))) (.lit 42))) (.var .u64 9)), false),
  ((.cmp .eql .u64 (.var .u64 9) (.var .u64 9)), true)]
def tnTXl : Asm := [((.cmp .lss .i64 (y 6) (.bin .add .i64 (y 14) (.lit 50))), true),
  ((.cmp .lss .i64 (.bin .rem .i64 (y 6) (.lit 1)) (.lit 0)), false),
  ((.cmp .geq .i64 (.bin .rem .i64 (y 6) (.lit 1)) (.lit 1)), false),
  ((.cmp .eql .i64 (.bin .rem .i64 (y 6) (.lit 1)) (.lit 0)), true),
  ((.cmp .lss .u64 (y 4) (y 5)), true),
  ((.cmp .eql .i64 (.sel .i64 1 0 (y 4)) (.lit 1)), true),
  ((.cmp .lss .i64 (.bin .add .i64 (y 6) (.lit 1)) (.bin .add .i64 (y 14) (.lit 50))), true),
  ((.cmp .lss .i64 (.bin .rem .i64 (.bin .add .i64 (y 6) (.lit 1)) (.lit 1)) (.lit 0)), false),
  ((.cmp .geq .i64 (.bin .rem .i64 (.bin .add .i64 (y 6) (.lit 1)) (.lit 1)) (.lit 1)), false),
  ((.cmp .eql .i64 (.bin .rem .i64 (.bin .add .i64 (y 6) (.lit 1)) (.lit 1)) (.lit 0)), true),
  ((.cmp .lss .i64 (.bin .add .i64 (.sel .i64 1 1 (y 4)) (.lit 2)) (.lit 0)), false),
  ((.cmp .geq .i64 (.bin .add .i64 (.sel .i64 1 1 (y 4)) (.lit 2)) (.lit 18)), false),
  ((.cmp .eql .i64 (.bin .add .i64 (.sel .i64 1 1 (y 4)) (.lit 2)) (.lit 2)), true),
  ((.cmp .lss .i64 (.bin .add .i64 (y 6) (.lit 2)) (.bin .add .i64 (y 14) (.lit 50))), true),
  ((.cmp .lss .i64 (.bin .rem .i64 (.bin .add .i64 (y 6) (.lit 2)) (.lit 1)) (.lit 0)), false),
  ((.cmp .geq .i64 (.bin .rem .i64 (.bin .add .i64 (y 6) (.lit 2)) (.lit 1)) (.lit 1)), false),
  ((.cmp .eql .i64 (.bin .rem .i64 (.bin .add .i64 (y 6) (.lit 2)) (.lit 1)) (.lit 0)), true),
  ((.cmp .lss .u64 (.bin .add .i64 (y 13) (.lit 1)) (.lit 1048576)), true),
  ((.cmp .eql .i64 (.sel .i64 6 0 (.bin .add .i64 (y 13) (.lit 1))) (.lit 1)), true),
  ((.cmp .eql .i64 (.sel .i64 6 1 (.bin .add .i64 (y 13) (.lit 1))) (.lit 0)), true),
  ((.cmp .eql .i64 (.sel .i64 6 2 (.bin .add .i64 (y 13) (.lit 1))) (.lit 0)), true),
  ((.cmp .eql .i64 (.sel .i64 6 3 (.bin .add .i64 (y 13) (.lit 1))) (.lit 1)), true),
  ((.cmp .eql .i64 (.sel .i64 6 4 (.bin .add .i64 (y 13) (.lit 1))) (.sel .i64 1 1 (y 4))), true),
  ((.cmp .eql .i64 (.sel .i64 6 5 (.bin .add .i64 (y 13) (.lit 1))) (.lit 0)), true),
  ((.cmp .eql .i64 (.sel .i64 6 6 (.bin .add .i64 (y 13) (.lit 1))) (.lit 0)), true),
  ((.cmp .eql .i64 (.sel .i64 6 7 (.bin .add .i64 (y 13) (.lit 1))) (.lit 0)), true)]
noncomputable def tnTXA : Asm := lapp tnTXb tnTXl
theorem tnTXA_eq : tnTXA = tnTXb ++ tnTXl := by kernel_rfl
noncomputable def tnTX1T : Tr AV := mkT [(0, p 13), (1, .int .i64 (.bin .add .i64 (y 14) (.lit 50))), (5, .int .i64 (.bin .add .i64 (y 6) (.lit 1)))]
def tnTX1L : List (Nat × AO) := [(0, c [i6 1, i6 2, i6 1, p 1, p 2, .int .i32 (.lit 0), .int .u32 (.lit 0), .slice 46 0 (.bin .add .i64 (y 13) (.lit 1)) (.room 8)]), (1, c [.iface 174 (.slice 3 0 (.lit 18) (.known 18)), .int .i64 (.bin .add .i64 (y 6) (.lit 6))]), (2, c [.slice 4 0 (.lit 1) (.known 1)]), (3, c [u6 0, .int .u64 (.var .u64 30), .int .u64 (.var .u64 9), u6 134217721, u6 0, u6 0, u6 0, u6 0, u6 0, u6 0, u6 0, .int .u64 (.var .u64 11), u6 0, u6 0, u6 0, u6 0, u6 0, u6 0]), (4, c [.chan 5]), (5, .chan 1 []), (6, .rows 1 [.i64, .i64, .i64] (y 5) []), (8, c [p 0]), (9, .map [(i6 0, .agg [.func 18 [] [], .func 19 [] [], .bool (.lit true)]), (i6 1, .agg [.func 20 [] [], .func 21 [] [], .bool (.lit false)]), (i6 7, .agg [.func 22 [] [], .func 23 [] [], .bool (.lit false)])]), (10, c [.map 9]), (11, c [p 0]), (12, c [.func 25 [] [p 8, p 10]]), (13, c [.slice 45 0 (.lit 1) (.room 1)]), (14, c [i6 0]), (15, c [.slice 6 0 (y 5) (.room 3)]), (43, c [p 47, .func 94 [] [p 15, p 11, p 14, p 12], .slice 48 0 (y 4) (.room 1)]), (45, c [p 43]), (46, .rows 6 [.i64, .i64, .i64, .i64, .i64, .i64, .i64, .i64] (.bin .add .i64 (y 13) (.lit 1)) []), (47, c [p 49, i6 0, .slice 50 0 (.lit 5) (.known 5)]), (48, .rows 8 [.i64] (y 4) []), (49, c [.func 135 [] [p 51, p 52, p 53], .ptr0, i6 0, .bool (.lit false)]), (50, c [.func 138 [] [p 52, p 54, p 51], .func 102 [] [p 55], .func 103 [] [p 56], .func 102 [] [p 57], .func 98 [] [p 11, p 14, p 58]]), (51, c [p 0, i6 0, .int .i64 (.sel .i64 1 1 (y 4))]), (52, c [u6 0]), (53, c [.func 74 [] [p 59, p 60, p 61]]), (54, c [.func 77 [] [p 59]]), (55, c [.func 76 [] [p 59, p 62]]), (56, c [p 0, i6 0, .int .i64 (.sel .i64 1 1 (y 4)), .func 20 [] [], .func 21 [] [], .bool (.lit false)]), (57, c [.func 27 [.agg [p 0, i6 0, .int .i64 (.sel .i64 1 1 (y 4)), .func 20 [] [], .func 21 [] [], .bool (.lit false)]] []]), (58, c [.int .i64 (y 4)]), (59, c [p 0, i6 0, .int .i64 (.sel .i64 1 1 (y 4))]), (60, c [i6 0]), (61, c [.int .i64 (.sel .i64 1 1 (y 4))]), (62, c [.func 74 [] [p 59, p 60, p 61]])]
theorem tnTX1k : stepOK tnTXA (stepChk (ev tab tnTXA 1000000) tnB 6 .normal tnKT tnKL 61 [(62, 83), (61, 81), (60, 80), (59, 82), (58, 56), (57, 78), (56, 79), (55, 84), (54, 87), (53, 86), (52, 88), (51, 85), (50, 104), (49, 89)] 46 tnTX1T tnTX1L 63) = true := by kernel_rfl
noncomputable def tnTX2T : Tr AV := mkT [(0, p 13), (1, .int .i64 (.bin .add .i64 (y 14) (.lit 50))), (5, .int .i64 (.bin .add .i64 (y 6) (.lit 2)))]
def tnTX2L : List (Nat × AO) := [(0, c [i6 1, i6 2, i6 1, p 1, p 2, .int .i32 (.lit 0), .int .u32 (.lit 0), .slice 46 0 (.bin .add .i64 (y 13) (.lit 1)) (.room 8)]), (1, c [.iface 174 (.slice 3 0 (.lit 18) (.known 18)), .int .i64 (.bin .add .i64 (y 6) (.lit 7))]), (2, c [.slice 4 0 (.lit 1) (.known 1)]), (3, c [u6 0, .int .u64 (.var .u64 30), .int .u64 (.var .u64 9), u6 134217721, u6 0, u6 0, u6 0, u6 0, u6 0, u6 0, u6 0, .int .u64 (.var .u64 11), u6 0, u6 0, u6 0, u6 0, u6 0, u6 0]), (4, c [.chan 5]), (5, .chan 1 []), (6, .rows 1 [.i64, .i64, .i64] (y 5) []), (8, c [p 0]), (9, .map [(i6 0, .agg [.func 18 [] [], .func 19 [] [], .bool (.lit true)]), (i6 1, .agg [.func 20 [] [], .func 21 [] [], .bool (.lit false)]), (i6 7, .agg [.func 22 [] [], .func 23 [] [], .bool (.lit false)])]), (10, c [.map 9]), (11, c [p 0]), (12, c [.func 25 [] [p 8, p 10]]), (13, c [.slice 45 0 (.lit 1) (.room 1)]), (14, c [i6 0]), (15, c [.slice 6 0 (y 5) (.room 3)]), (43, c [p 47, .func 94 [] [p 15, p 11, p 14, p 12], .slice 48 0 (y 4) (.room 1)]), (45, c [p 43]), (46, .rows 6 [.i64, .i64, .i64, .i64, .i64, .i64, .i64, .i64] (.bin .add .i64 (y 13) (.lit 1)) []), (47, c [p 49, i6 0, .slice 50 0 (.lit 5) (.room 1)]), (48, .rows 8 [.i64] (y 4) []), (49, c [.func 139 [] [p 51, p 52, p 53, p 54], .ptr0, i6 0, .bool (.lit false)]), (50, c [.func 141 [] [], .func 102 [] [p 55], .func 103 [] [p 56], .func 102 [] [p 57], .func 98 [] [p 11, p 14, p 58]]), (51, c [p 0, i6 0, .int .i64 (.sel .i64 1 1 (y 4))]), (52, c [.int .u64 (.var .u64 9)]), (53, c [.int .u64 (.var .u64 10)]), (54, c [i6 1]), (55, c [.func 76 [] [p 59, p 60]]), (56, c [p 0, i6 0, .int .i64 (.sel .i64 1 1 (y 4)), .func 20 [] [], .func 21 [] [], .bool (.lit false)]), (57, c [.func 27 [.agg [p 0, i6 0, .int .i64 (.sel .i64 1 1 (y 4)), .func 20 [] [], .func 21 [] [], .bool (.lit false)]] []]), (58, c [.int .i64 (y 4)]), (59, c [p 0, i6 0, .int .i64 (.sel .i64 1 1 (y 4))]), (60, c [.func 74 [] [p 59, p 61, p 62]]), (61, c [i6 0]), (62, c [.int .i64 (.sel .i64 1 1 (y 4))])]
theorem tnTX2k : stepOK tnTXA (stepChk (ev tab tnTXA 1000000) tnB 6 .normal tnTX1T tnTX1L 63 [(62, 61), (61, 60), (60, 62), (54, 675), (53, 674), (52, 673), (51, 672), (50, 681), (49, 676)] 46 tnTX2T tnTX2L 63) = true := by kernel_rfl
noncomputable def tnTX3T : Tr AV := mkT [(0, p 13), (1, .int .i64 (.bin .add .i64 (y 14) (.lit 50))), (5, .int .i64 (.bin .add .i64 (y 6) (.lit 3)))]
def tnTX3L : List (Nat × AO) := [(0, c [i6 1, i6 2, i6 1, p 1, p 2, .int .i32 (.lit 0), .int .u32 (.lit 0), .slice 46 0 (.bin .add .i64 (y 13) (.lit 2)) (.room 8)]), (1, c [.iface 174 (.slice 3 0 (.lit 18) (.known 18)), .int .i64 (.bin .add .i64 (y 6) (.lit 8))]), (2, c [.slice 4 0 (.lit 1) (.known 1)]), (3, c [u6 0, .int .u64 (.var .u64 30), .int .u64 (.var .u64 10), u6 134217721, u6 0, u6 0, u6 0, u6 0, u6 0, u6 0, u6 0, .int .u64 (.var .u64 11), u6 0, u6 0, u6 0, u6 0, u6 0, u6 0]), (4, c [.chan 5]), (5, .chan 1 []), (6, .rows 1 [.i64, .i64, .i64] (y 5) []), (8, c [p 0]), (9, .map [(i6 0, .agg [.func 18 [] [], .func 19 [] [], .bool (.lit true)]), (i6 1, .agg [.func 20 [] [], .func 21 [] [], .bool (.lit false)]), (i6 7, .agg [.func 22 [] [], .func 23 [] [], .bool (.lit false)])]), (10, c [.map 9]), (11, c [p 0]), (12, c [.func 25 [] [p 8, p 10]]), (13, c [.slice 45 0 (.lit 1) (.room 1)]), (14, c [i6 0]), (15, c [.slice 6 0 (y 5) (.room 3)]), (43, c [p 47, .func 94 [] [p 15, p 11, p 14, p 12], .slice 48 0 (y 4) (.room 1)]), (45, c [p 43]), (46, .rows 6 [.i64, .i64, .i64, .i64, .i64, .i64, .i64, .i64] (.bin .add .i64 (y 13) (.lit 2)) []), (47, c [p 49, i6 0, .slice 50 0 (.lit 1) (.known 1)]), (48, .rows 8 [.i64] (y 4) []), (49, c [.func 225 [] [p 51, p 52, p 53], .ptr0, i6 0, .bool (.lit false)]), (50, c [.func 100 [] [p 11, p 14, p 54, p 55]]), (51, c [p 1]), (52, c [i6 8]), (53, c [u6 1]), (54, c [.int .i64 (y 4)]), (55, c [i6 0])]
theorem tnTX3k : stepOK tnTXA (stepChk (ev tab tnTXA 1000000) tnB 6 .normal tnTX2T tnTX2L 63 [(55, 86), (54, 58), (53, 91), (52, 90), (51, 89), (50, 95), (49, 92), (46, 78)] 46 tnTX3T tnTX3L 56) = true := by kernel_rfl
theorem tnTX_run {v : Nat → Nat} {arr : Nat → Nat → Nat → Nat} (ha : AsmV tnTXA v arr) (hb : BndA arr) : Rounds Tryz.prog tnB 6 46 ⟨tnKT, tnKL, 61, tnTXA, v, arr⟩ ⟨tnTX3T, tnTX3L, 56, tnTXA, v, arr⟩ := by
  have h1 := Leads.same (fn := 6) (snd tnTXA) tnTX1k ha hb
  have h2 := Leads.same (fn := 6) (snd tnTXA) tnTX2k ha hb
  have h3 := Leads.same (fn := 6) (snd tnTXA) tnTX3k ha hb
  exact .step h1 (.step h2 (Rounds.one h3))
def tnTXkb : Asm := []
def tnTXkl : Asm := [((.cmp .lss .i64 (.bin .add .i64 (y 6) (.lit 3)) (.bin .add .i64 (y 14) (.lit 50))), true),
  ((.cmp .lss .i64 (.bin .rem .i64 (.bin .add .i64 (y 6) (.lit 3)) (.lit 1)) (.lit 0)), false),
  ((.cmp .geq .i64 (.bin .rem .i64 (.bin .add .i64 (y 6) (.lit 3)) (.lit 1)) (.lit 1)), false),
  ((.cmp .eql .i64 (.bin .rem .i64 (.bin .add .i64 (y 6) (.lit 3)) (.lit 1)) (.lit 0)), true),
  ((.cmp .lss .u64 (.bin .add .i64 (y 13) (.lit 2)) (.lit 1048576)), true),
  ((.cmp .lss .u64 (y 4) (.lit 1048576)), true),
  ((.cmp .geq .i64 (.bin .add .i64 (y 4) (.lit 1)) (y 5)), false),
  ((.cmp .lss .u64 (.bin .add .i64 (y 4) (.lit 1)) (y 5)), true),
  ((.cmp .eql .i64 (.sel .i64 6 0 (.bin .add .i64 (y 13) (.lit 2))) (.lit 2)), true),
  ((.cmp .eql .i64 (.sel .i64 6 1 (.bin .add .i64 (y 13) (.lit 2))) (.lit 0)), true),
  ((.cmp .eql .i64 (.sel .i64 6 2 (.bin .add .i64 (y 13) (.lit 2))) (y 4)), true),
  ((.cmp .eql .i64 (.sel .i64 6 3 (.bin .add .i64 (y 13) (.lit 2))) (.lit 0)), true),
  ((.cmp .eql .i64 (.sel .i64 6 4 (.bin .add .i64 (y 13) (.lit 2))) (.lit 0)), true),
  ((.cmp .eql .i64 (.sel .i64 6 5 (.bin .add .i64 (y 13) (.lit 2))) (.lit 0)), true),
  ((.cmp .eql .i64 (.sel .i64 6 6 (.bin .add .i64 (y 13) (.lit 2))) (.lit 0)), true),
  ((.cmp .eql .i64 (.sel .i64 6 7 (.bin .add .i64 (y 13) (.lit 2))) (.lit 0)), true),
  ((.cmp .eql .i64 (.sel .i64 6 0 (.bin .add .i64 (y 13) (.lit 3))) (.lit 0)), true),
  ((.cmp .eql .i64 (.sel .i64 6 1 (.bin .add .i64 (y 13) (.lit 3))) (.lit 0)), true),
  ((.cmp .eql .i64 (.sel .i64 6 2 (.bin .add .i64 (y 13) (.lit 3))) (.bin .add .i64 (y 4) (.lit 1))), true),
  ((.cmp .eql .i64 (.sel .i64 6 3 (.bin .add .i64 (y 13) (.lit 3))) (.sel .i64 1 0 (.bin .add .i64 (y 4) (.lit 1)))), true),
  ((.cmp .eql .i64 (.sel .i64 6 4 (.bin .add .i64 (y 13) (.lit 3))) (.sel .i64 1 1 (.bin .add .i64 (y 4) (.lit 1)))), true),
  ((.cmp .eql .i64 (.sel .i64 6 5 (.bin .add .i64 (y 13) (.lit 3))) (.sel .i64 1 2 (.bin .add .i64 (y 4) (.lit 1)))), true),
  ((.cmp .eql .i64 (.sel .i64 6 6 (.bin .add .i64 (y 13) (.lit 3))) (.lit 0)), true),
  ((.cmp .eql .i64 (.sel .i64 6 7 (.bin .add .i64 (y 13) (.lit 3))) (.lit 0)), true),
  ((.cmp .eql .i64 (.sel .i64 8 0 (y 4)) (.lit 0)), true)]
noncomputable def tnTXkA : Asm := lapp tnTXkb tnTXkl
theorem tnTXkA_eq : tnTXkA = tnTXkb ++ tnTXkl := by kernel_rfl
noncomputable def tnTXk1T : Tr AV := mkT [(0, p 13), (1, .int .i64 (.bin .add .i64 (y 14) (.lit 50))), (5, .int .i64 (.bin .add .i64 (y 6) (.lit 4)))]
def tnTXk1L : List (Nat × AO) := [(0, c [i6 1, i6 2, i6 1, p 1, p 2, .int .i32 (.lit 0), .int .u32 (.lit 0), .slice 46 0 (.bin .add .i64 (y 13) (.lit 4)) (.room 8)]), (1, c [.iface 174 (.slice 3 0 (.lit 18) (.known 18)), .int .i64 (.bin .add .i64 (y 6) (.lit 9))]), (2, c [.slice 4 0 (.lit 1) (.known 1)]), (3, c [u6 0, .int .u64 (.var .u64 30), .int .u64 (.var .u64 10), u6 134217721, u6 0, u6 0, u6 0, u6 0, u6 1, u6 0, u6 0, .int .u64 (.var .u64 11), u6 0, u6 0, u6 0, u6 0, u6 0, u6 0]), (4, c [.chan 5]), (5, .chan 1 []), (6, .rows 1 [.i64, .i64, .i64] (y 5) []), (8, c [p 0]), (9, .map [(i6 0, .agg [.func 18 [] [], .func 19 [] [], .bool (.lit true)]), (i6 1, .agg [.func 20 [] [], .func 21 [] [], .bool (.lit false)]), (i6 7, .agg [.func 22 [] [], .func 23 [] [], .bool (.lit false)])]), (10, c [.map 9]), (11, c [p 0]), (12, c [.func 25 [] [p 8, p 10]]), (13, c [.slice 45 0 (.lit 1) (.room 1)]), (14, c [i6 0]), (15, c [.slice 6 0 (y 5) (.room 3)]), (43, c [p 47, .func 94 [] [p 15, p 11, p 14, p 12], .slice 48 0 (.bin .add .i64 (y 4) (.lit 1)) (.room 1)]), (45, c [p 43]), (46, .rows 6 [.i64, .i64, .i64, .i64, .i64, .i64, .i64, .i64] (.bin .add .i64 (y 13) (.lit 4)) []), (47, c [p 49, i6 0, .slice 50 0 (.lit 3) (.room 1)]), (48, .rows 8 [.i64] (.bin .add .i64 (y 4) (.lit 1)) []), (49, c [.func 239 [] [p 51, p 52, p 53, p 54], .ptr0, i6 0, .bool (.lit false)]), (50, c [.func 224 [] [], .func 102 [] [p 55], .func 97 [] [p 12, p 14, p 15, p 56, p 11]]), (51, c [p 1]), (52, c [i6 8]), (53, c [u6 1]), (54, c [u6 0]), (55, c [.func 223 [] [p 57, p 58, p 59, p 60]]), (56, c [.int .i64 (.bin .add .i64 (y 4) (.lit 1))]), (57, c [p 1]), (58, c [i6 8]), (59, c [u6 1]), (60, c [u6 0])]
theorem tnTXk1k : stepOK tnTXkA (stepChk (ev tab tnTXkA 1000000) tnB 6 .normal tnTX3T tnTX3L 56 [(60, 84), (59, 83), (58, 82), (57, 81), (56, 74), (55, 85), (54, 89), (53, 88), (52, 87), (51, 86), (50, 99), (49, 90), (48, 73), (47, 100), (46, 78)] 46 tnTXk1T tnTXk1L 61) = true := by kernel_rfl
theorem tnTXk_run {v : Nat → Nat} {arr : Nat → Nat → Nat → Nat} (ha : AsmV tnTXkA v arr) (hb : BndA arr) : Rounds Tryz.prog tnB 6 46 ⟨tnTX3T, tnTX3L, 56, tnTXkA, v, arr⟩ ⟨tnTXk1T, tnTXk1L, 61, tnTXkA, v, arr⟩ := by
  have h1 := Leads.same (fn := 6) (snd tnTXkA) tnTXk1k ha hb
  exact Rounds.one h1
def tnTXkrE : Eqs := [((.bin .add .i64 (y 13) (.lit 1)), (.bin .add .i64 (y 13) (.lit 4))), ((.bin .add .i64 (y 6) (.lit 5)), (.bin .add .i64 (y 6) (.lit 9))), ((.var .u64 30), (.var .u64 30)), ((.var .u64 9), (.var .u64 10)), ((.var .u64 11), (.var .u64 11)), ((y 5), (y 5)), ((y 4), (.bin .add .i64 (y 4) (.lit 1))), ((y 4), (.bin .add .i64 (y 4) (.lit 1))), ((.bin .add .i64 (y 14) (.lit 50)), (.bin .add .i64 (y 14) (.lit 50))), ((y 6), (.bin .add .i64 (y 6) (.lit 4)))]
def tnTXkrR : List RowEq := [⟨1, [.i64, .i64, .i64], (y 5), 1, (y 5), []⟩, ⟨6, [.i64, .i64, .i64, .i64, .i64, .i64, .i64, .i64], (.bin .add .i64 (y 13) (.lit 1)), 6, (.bin .add .i64 (y 13) (.lit 4)), []⟩, ⟨8, [.i64], (y 4), 8, (.bin .add .i64 (y 4) (.lit 1)), []⟩]
theorem tnTXkr_ren : seen [] 46 tnKT tnKL 61 tnTXk1T (mkG tnTXk1L 61) = some (tnTXkrE, tnTXkrR) := by kernel_rfl
def tnTXdb : Asm := []
def tnTXdl : Asm := [((.cmp .lss .i64 (.bin .add .i64 (y 6) (.lit 3)) (.bin .add .i64 (y 14) (.lit 50))), true),
  ((.cmp .lss .i64 (.bin .rem .i64 (.bin .add .i64 (y 6) (.lit 3)) (.lit 1)) (.lit 0)), false),
  ((.cmp .geq .i64 (.bin .rem .i64 (.bin .add .i64 (y 6) (.lit 3)) (.lit 1)) (.lit 1)), false),
  ((.cmp .eql .i64 (.bin .rem .i64 (.bin .add .i64 (y 6) (.lit 3)) (.lit 1)) (.lit 0)), true),
  ((.cmp .lss .u64 (.bin .add .i64 (y 13) (.lit 2)) (.lit 1048576)), true),
  ((.cmp .lss .u64 (y 4) (.lit 1048576)), true),
  ((.cmp .geq .i64 (.bin .add .i64 (y 4) (.lit 1)) (y 5)), true),
  ((.cmp .eql .i64 (.sel .i64 6 0 (.bin .add .i64 (y 13) (.lit 2))) (.lit 2)), true),
  ((.cmp .eql .i64 (.sel .i64 6 1 (.bin .add .i64 (y 13) (.lit 2))) (.lit 0)), true),
  ((.cmp .eql .i64 (.sel .i64 6 2 (.bin .add .i64 (y 13) (.lit 2))) (y 4)), true),
  ((.cmp .eql .i64 (.sel .i64 6 3 (.bin .add .i64 (y 13) (.lit 2))) (.lit 0)), true),
  ((.cmp .eql .i64 (.sel .i64 6 4 (.bin .add .i64 (y 13) (.lit 2))) (.lit 0)), true),
  ((.cmp .eql .i64 (.sel .i64 6 5 (.bin .add .i64 (y 13) (.lit 2))) (.lit 0)), true),
  ((.cmp .eql .i64 (.sel .i64 6 6 (.bin .add .i64 (y 13) (.lit 2))) (.lit 0)), true),
  ((.cmp .eql .i64 (.sel .i64 6 7 (.bin .add .i64 (y 13) (.lit 2))) (.lit 0)), true),
  ((.cmp .eql .i64 (.sel .i64 8 0 (y 4)) (.lit 0)), true)]
noncomputable def tnTXdA : Asm := lapp tnTXdb tnTXdl
theorem tnTXdA_eq : tnTXdA = tnTXdb ++ tnTXdl := by kernel_rfl
noncomputable def tnTXd1T : Tr AV := mkT [(0, p 13), (1, .int .i64 (.bin .add .i64 (y 14) (.lit 50))), (5, .int .i64 (.bin .add .i64 (y 6) (.lit 4)))]
def tnTXd1L : List (Nat × AO) := [(0, c [i6 1, i6 2, i6 1, p 1, p 2, .int .i32 (.lit 0), .int .u32 (.lit 0), .slice 46 0 (.bin .add .i64 (y 13) (.lit 3)) (.room 8)]), (1, c [.iface 174 (.slice 3 0 (.lit 18) (.known 18)), .int .i64 (.bin .add .i64 (y 6) (.lit 9))]), (2, c [.slice 4 0 (.lit 1) (.known 1)]), (3, c [u6 0, .int .u64 (.var .u64 30), .int .u64 (.var .u64 10), u6 134217721, u6 0, u6 0, u6 0, u6 0, u6 1, u6 0, u6 0, .int .u64 (.var .u64 11), u6 0, u6 0, u6 0, u6 0, u6 0, u6 0]), (4, c [.chan 5]), (5, .chan 1 []), (6, .rows 1 [.i64, .i64, .i64] (y 5) []), (8, c [p 0]), (9, .map [(i6 0, .agg [.func 18 [] [], .func 19 [] [], .bool (.lit true)]), (i6 1, .agg [.func 20 [] [], .func 21 [] [], .bool (.lit false)]), (i6 7, .agg [.func 22 [] [], .func 23 [] [], .bool (.lit false)])]), (10, c [.map 9]), (11, c [p 0]), (12, c [.func 25 [] [p 8, p 10]]), (13, c [.slice 45 0 (.lit 1) (.room 1)]), (14, c [i6 0]), (15, c [.slice 6 0 (y 5) (.room 3)]), (43, c [.ptr0, .func 94 [] [p 15, p 11, p 14, p 12], .slice 47 0 (.bin .add .i64 (y 4) (.lit 1)) (.room 1)]), (45, c [p 43]), (46, .rows 6 [.i64, .i64, .i64, .i64, .i64, .i64, .i64, .i64] (.bin .add .i64 (y 13) (.lit 3)) []), (47, .rows 8 [.i64] (.bin .add .i64 (y 4) (.lit 1)) [])]
theorem tnTXd1k : stepOK tnTXdA (stepChk (ev tab tnTXdA 1000000) tnB 6 .normal tnTX3T tnTX3L 56 [(47, 73), (46, 70)] 46 tnTXd1T tnTXd1L 48) = true := by kernel_rfl
theorem tnTXd_run {v : Nat → Nat} {arr : Nat → Nat → Nat → Nat} (ha : AsmV tnTXdA v arr) (hb : BndA arr) : Rounds Tryz.prog tnB 6 46 ⟨tnTX3T, tnTX3L, 56, tnTXdA, v, arr⟩ ⟨tnTXd1T, tnTXd1L, 48, tnTXdA, v, arr⟩ := by
  have h1 := Leads.same (fn := 6) (snd tnTXdA) tnTXd1k ha hb
  exact Rounds.one h1
def tnTXdrE : Eqs := [((y 13), (.bin .add .i64 (y 13) (.lit 3))), ((.bin .add .i64 (y 6) (.lit 5)), (.bin .add .i64 (y 6) (.lit 9))), ((.var .u64 30), (.var .u64 30)), ((.var .u64 9), (.var .u64 10)), ((.var .u64 11), (.var .u64 11)), ((y 5), (y 5)), ((y 5), (.bin .add .i64 (y 4) (.lit 1))), ((.bin .add .i64 (y 14) (.lit 50)), (.bin .add .i64 (y 14) (.lit 50))), ((y 6), (.bin .add .i64 (y 6) (.lit 4)))]
def tnTXdrR : List RowEq := [⟨1, [.i64, .i64, .i64], (y 5), 1, (y 5), []⟩, ⟨6, [.i64, .i64, .i64, .i64, .i64, .i64, .i64, .i64], (y 13), 6, (.bin .add .i64 (y 13) (.lit 3)), []⟩, ⟨8, [.i64], (y 5), 8, (.bin .add .i64 (y 4) (.lit 1)), []⟩]
theorem tnTXdr_ren : seen [] 46 tnDT tnDL 48 tnTXd1T (mkG tnTXd1L 48) = some (tnTXdrE, tnTXdrR) := by kernel_rfl
end Go.Sx
namespace Go.Sx
open Go Go.Proofs
def tnTLb : Asm := [((.cmp .eql .i64 (.conv .u64 .i64 (.bin .shr .u64 (.bin .and .u64 (.var .u64 9) (.lit 7)) (.lit 0))) (.lit 4)), false),
  ((.cmp .eql .i64 (.conv .u64 .i64 (.bin .shr .u64 (.bin .and .u64 (.var .u64 9) (.lit 7)) (.lit 0))) (.lit 2)), false),
  ((.cmp .eql .i64 (.conv .u64 .i64 (.bin .shr .u64 (.bin .and .u64 (.var .u64 9) (.lit 7)) (.lit 0))) (.lit 3)), true),
  ((.cmp .geq .i64 (.conv .u64 .i64 (.bin .shr .u64 (.bin .and .u64 (.var .u64 9) (.lit 7)) (.lit 0))) (.lit 0)), true),
  ((.cmp .leq .i64 (.conv .u64 .i64 (.bin .shr .u64 (.bin .and .u64 (.var .u64 9) (.lit 7)) (.lit 0))) (.lit 4)), true),
  ((.cmp .geq .i64 (.conv .u64 .i64 (.bin .shr .u64 (.bin .and .u64 (.var .u64 9) (.lit 134217720)) (.lit 3))) (.lit 0)), true),
  ((.cmp .leq .i64 (.conv .u64 .i64 (.bin .shr .u64 (.bin .and .u64 (.var .u64 9) (.lit 134217720)) (.lit 3))) (.lit 16777215)), true),
  ((.cmp .geq .i64 (.conv .u64 .i64 (.bin .shr .u64 (.bin .and .u64 (.var .u64 9) (.lit 4397912293376)) (.lit 27))) (.lit 0)), true),
  ((.cmp .leq .i64 (.conv .u64 .i64 (.bin .shr .u64 (.bin .and .u64 (.var .u64 9) (.lit 4397912293376)) (.lit 27))) (.lit 32765)), true),
  ((.cmp .geq .i64 (.conv .u64 .i64 (.bin .shr .u64 (.bin .and .u64 (.var .u64 9) (.lit 1121501860331520)) (.lit 42))) (.lit 1)), true),
  ((.cmp .leq .i64 (.conv .u64 .i64 (.bin .shr .u64 (.bin .and .u64 (.var .u64 9) (.lit 1121501860331520)) (.lit 42))) (.lit 255)), true),
  ((.cmp .gtr .u64 (.conv .i64 .u64 (.conv .u64 .i64 (.bin .shr .u64 (.bin .and .u64 (.var .u64 9) (.lit 7)) (.lit 0)))) (.lit 7)), false),
  ((.cmp .gtr .u64 (.conv .i64 .u64 (.conv .u64 .i64 (.bin .shr .u64 (.bin .and .u64 (.var .u64 9) (.lit 134217720)) (.lit 3)))) (.lit 16777215)), false),
  ((.cmp .gtr .u64 (.conv .i64 .u64 (.conv .u64 .i64 (.bin .shr .u64 (.bin .and .u64 (.var .u64 9) (.lit 4397912293376)) (.lit 27)))) (.lit 32767)), false),
  ((.cmp .gtr .u64 (.conv .i64 .u64 (.conv .u64 .i64 (.bin .shr .u64 (.bin .and .u64 (.var .u64 9) (.lit 1121501860331520)) (.lit 42)))) (.lit 255)), false),
  ((.cmp .neq .u64 (.bin .or .u64 (.bin .andNot .u64 (.bin .or .u64 (.bin .andNot .u64 (.bin .or .u64 (.bin .andNot .u64 (.bin .or .u64 (.lit 0) (.bin .shl .u64 (.conv .i64 .u64 (.conv .u64 .i64 (.bin .shr .u64 (.bin .and .u64 (.var .u64 9) (.lit 7)) (.lit 0)))) (.lit 0))) (.lit 134217720)) (.bin .shl .u64 (.conv .i64 .u64 (.conv .u64 .i64 (.bin .shr .u64 (.bin .and .u64 (.var .u64 9) (.lit 134217720)) (.lit 3)))) (.lit 3))) (.lit 4397912293376)) (.bin .shl .u64 (.conv .i64 .u64 (.conv .u64 .i64 (.bin .shr .u64 (.bin .and .u64 (.var .u64 9) (.lit 4397912293376)) (.lit 27)))) (.lit 27))) (.lit 1121501860331520)) (.bin .shl .u64 (.conv .i64 .u64 (.conv .u64 .i64 (.bin .shr .u64 (.bin .and .u64 (.var .u64 9) (.lit 1121501860331520)) (.lit 42)))) (.lit 42))) (.var .u64 9)), false),
  ((.cmp .eql .i64 (.conv .u64 .i64 (.bin .shr .u64 (.bin .and .u64 (.var .u64 9) (.lit 7)) (.lit 0))) (.lit 0)), false),
  ((.cmp .eql .i64 (.conv .u64 .i64 (.bin .shr .u64 (.bin .and .u64 (.var .u64 9) (.lit 7)) (.lit 0))) (.lit 1)), false),
  ((.cmp .eql .i64 (.conv .u64 .i64 (.bin .shr .u64 (.bin .and .u64 (.var .u64 9) (.lit 4397912293376)) (.lit 27))) (.lit 0)), true),
  ((.cmp .eql .i64 (.bin .add .i64 (.conv .u64 .i64 (.bin .shr .u64 (.bin .and .u64 (.var .u64 9) (.lit 1121501860331520)) (.lit 42))) (.lit 18446744073709551615)) (.lit 0)), true),
  ((.cmp .eql .u64 (.bin .or .u64 (.bin .andNot .u64 (.bin .or .u64 (.bin .andNot .u64 (.bin .or .u64 (.lit 1) (.bin .shl .u64 (.conv .i64 .u64 (.conv .u64 .i64 (.bin .shr .u64 (.bin .and .u64 (.var .u64 9) (.lit 134217720)) (.lit 3)))) (.lit 3))) (.lit 4397912293376)) (.lit 0)) (.lit 1121501860331520)) (.lit 0)) (.lit 73)), true),
  ((.cmp .neq .u64 (.bin .or .u64 (.bin .andNot .u64 (.bin .or .u64 (.bin .andNot .u64 (.bin .or .u64 (.lit 3) (.bin .shl .u64 (.conv .i64 .u64 (.conv .u64 .i64 (.bin .shr .u64 (.bin .and .u64 (.var .u64 9) (.lit 134217720)) (.lit 3)))) (.lit 3))) (.lit 4397912293376)) (.lit 0)) (.lit 1121501860331520)) (.bin .shl .u64 (.conv .i64 .u64 (.conv .u64 .i64 (.bin .shr .u64 (.bin .and .u64 (.var .u64 9) (.lit 1121501860331520)) (.lit 42)))) (.lit 42))) (.var .u64 9)), false),
  ((.cmp .eql .u64 (.var .u64 9) (.var .u64 9)), true)]
def tnTLl : Asm := [((.cmp .lss .i64 (y 6) (.bin .add .i64 (y 14) (.lit 50))), true),
  ((.cmp .lss .i64 (.bin .rem .i64 (y 6) (.lit 1)) (.lit 0)), false),
  ((.cmp .geq .i64 (.bin .rem .i64 (y 6) (.lit 1)) (.lit 1)), false),
  ((.cmp .eql .i64 (.bin .rem .i64 (y 6) (.lit 1)) (.lit 0)), true),
  ((.cmp .lss .u64 (y 4) (y 5)), true),
  ((.cmp .eql .i64 (.sel .i64 1 0 (y 4)) (.lit 1)), true),
  ((.cmp .lss .i64 (.bin .add .i64 (y 6) (.lit 1)) (.bin .add .i64 (y 14) (.lit 50))), true),
  ((.cmp .lss .i64 (.bin .rem .i64 (.bin .add .i64 (y 6) (.lit 1)) (.lit 1)) (.lit 0)), false),
  ((.cmp .geq .i64 (.bin .rem .i64 (.bin .add .i64 (y 6) (.lit 1)) (.lit 1)) (.lit 1)), false),
  ((.cmp .eql .i64 (.bin .rem .i64 (.bin .add .i64 (y 6) (.lit 1)) (.lit 1)) (.lit 0)), true),
  ((.cmp .lss .i64 (.bin .add .i64 (.sel .i64 1 1 (y 4)) (.lit 2)) (.lit 0)), false),
  ((.cmp .geq .i64 (.bin .add .i64 (.sel .i64 1 1 (y 4)) (.lit 2)) (.lit 18)), false),
  ((.cmp .eql .i64 (.bin .add .i64 (.sel .i64 1 1 (y 4)) (.lit 2)) (.lit 2)), true),
  ((.cmp .lss .i64 (.bin .add .i64 (y 6) (.lit 2)) (.bin .add .i64 (y 14) (.lit 50))), true),
  ((.cmp .lss .i64 (.bin .rem .i64 (.bin .add .i64 (y 6) (.lit 2)) (.lit 1)) (.lit 0)), false),
  ((.cmp .geq .i64 (.bin .rem .i64 (.bin .add .i64 (y 6) (.lit 2)) (.lit 1)) (.lit 1)), false),
  ((.cmp .eql .i64 (.bin .rem .i64 (.bin .add .i64 (y 6) (.lit 2)) (.lit 1)) (.lit 0)), true),
  ((.cmp .lss .u64 (.bin .add .i64 (y 13) (.lit 1)) (.lit 1048576)), true),
  ((.cmp .eql .i64 (.sel .i64 6 0 (.bin .add .i64 (y 13) (.lit 1))) (.lit 1)), true),
  ((.cmp .eql .i64 (.sel .i64 6 1 (.bin .add .i64 (y 13) (.lit 1))) (.lit 0)), true),
  ((.cmp .eql .i64 (.sel .i64 6 2 (.bin .add .i64 (y 13) (.lit 1))) (.lit 0)), true),
  ((.cmp .eql .i64 (.sel .i64 6 3 (.bin .add .i64 (y 13) (.lit 1))) (.lit 1)), true),
  ((.cmp .eql .i64 (.sel .i64 6 4 (.bin .add .i64 (y 13) (.lit 1))) (.sel .i64 1 1 (y 4))), true),
  ((.cmp .eql .i64 (.sel .i64 6 5 (.bin .add .i64 (y 13) (.lit 1))) (.lit 0)), true),
  ((.cmp .eql .i64 (.sel .i64 6 6 (.bin .add .i64 (y 13) (.lit 1))) (.lit 0)), true),
  ((.cmp .eql .i64 (.sel .i64 6 7 (.bin .add .i64 (y 13) (.lit 1))) (.lit 0)), true)]
noncomputable def tnTLA : Asm := lapp tnTLb tnTLl
theorem tnTLA_eq : tnTLA = tnTLb ++ tnTLl := by kernel_rfl
noncomputable def tnTL1T : Tr AV := mkT [(0, p 13), (1, .int .i64 (.bin .add .i64 (y 14) (.lit 50))), (5, .int .i64 (.bin .add .i64 (y 6) (.lit 1)))]
def tnTL1L : List (Nat × AO) := [(0, c [i6 1, i6 2, i6 1, p 1, p 2, .int .i32 (.lit 0), .int .u32 (.lit 0), .slice 46 0 (.bin .add .i64 (y 13) (.lit 1)) (.room 8)]), (1, c [.iface 174 (.slice 3 0 (.lit 18) (.known 18)), .int .i64 (.bin .add .i64 (y 6) (.lit 6))]), (2, c [.slice 4 0 (.lit 1) (.known 1)]), (3, c [u6 0, .int .u64 (.var .u64 30), .int .u64 (.var .u64 9), u6 134217721, u6 0, u6 0, u6 0, u6 0, u6 0, u6 0, u6 0, .int .u64 (.var .u64 11), u6 0, u6 0, u6 0, u6 0, u6 0, u6 0]), (4, c [.chan 5]), (5, .chan 1 []), (6, .rows 1 [.i64, .i64, .i64] (y 5) []), (8, c [p 0]), (9, .map [(i6 0, .agg [.func 18 [] [], .func 19 [] [], .bool (.lit true)]), (i6 1, .agg [.func 20 [] [], .func 21 [] [], .bool (.lit false)]), (i6 7, .agg [.func 22 [] [], .func 23 [] [], .bool (.lit false)])]), (10, c [.map 9]), (11, c [p 0]), (12, c [.func 25 [] [p 8, p 10]]), (13, c [.slice 45 0 (.lit 1) (.room 1)]), (14, c [i6 0]), (15, c [.slice 6 0 (y 5) (.room 3)]), (43, c [p 47, .func 94 [] [p 15, p 11, p 14, p 12], .slice 48 0 (y 4) (.room 1)]), (45, c [p 43]), (46, .rows 6 [.i64, .i64, .i64, .i64, .i64, .i64, .i64, .i64] (.bin .add .i64 (y 13) (.lit 1)) []), (47, c [p 49, i6 0, .slice 50 0 (.lit 5) (.known 5)]), (48, .rows 8 [.i64] (y 4) []), (49, c [.func 135 [] [p 51, p 52, p 53], .ptr0, i6 0, .bool (.lit false)]), (50, c [.func 138 [] [p 52, p 54, p 51], .func 102 [] [p 55], .func 103 [] [p 56], .func 102 [] [p 57], .func 98 [] [p 11, p 14, p 58]]), (51, c [p 0, i6 0, .int .i64 (.sel .i64 1 1 (y 4))]), (52, c [u6 0]), (53, c [.func 74 [] [p 59, p 60, p 61]]), (54, c [.func 77 [] [p 59]]), (55, c [.func 76 [] [p 59, p 62]]), (56, c [p 0, i6 0, .int .i64 (.sel .i64 1 1 (y 4)), .func 20 [] [], .func 21 [] [], .bool (.lit false)]), (57, c [.func 27 [.agg [p 0, i6 0, .int .i64 (.sel .i64 1 1 (y 4)), .func 20 [] [], .func 21 [] [], .bool (.lit false)]] []]), (58, c [.int .i64 (y 4)]), (59, c [p 0, i6 0, .int .i64 (.sel .i64 1 1 (y 4))]), (60, c [i6 0]), (61, c [.int .i64 (.sel .i64 1 1 (y 4))]), (62, c [.func 74 [] [p 59, p 60, p 61]])]
theorem tnTL1k : stepOK tnTLA (stepChk (ev tab tnTLA 1000000) tnB 6 .normal tnKT tnKL 61 [(62, 83), (61, 81), (60, 80), (59, 82), (58, 56), (57, 78), (56, 79), (55, 84), (54, 87), (53, 86), (52, 88), (51, 85), (50, 104), (49, 89)] 46 tnTL1T tnTL1L 63) = true := by kernel_rfl
noncomputable def tnTL2T : Tr AV := mkT [(0, p 13), (1, .int .i64 (.bin .add .i64 (y 14) (.lit 50))), (5, .int .i64 (.bin .add .i64 (y 6) (.lit 2)))]
def tnTL2L : List (Nat × AO) := [(0, c [i6 1, i6 2, i6 1, p 1, p 2, .int .i32 (.lit 0), .int .u32 (.lit 0), .slice 46 0 (.bin .add .i64 (y 13) (.lit 1)) (.room 8)]), (1, c [.iface 174 (.slice 3 0 (.lit 18) (.known 18)), .int .i64 (.bin .add .i64 (y 6) (.lit 7))]), (2, c [.slice 4 0 (.lit 1) (.known 1)]), (3, c [u6 0, .int .u64 (.var .u64 30), .int .u64 (.var .u64 9), u6 134217721, u6 0, u6 0, u6 0, u6 0, u6 0, u6 0, u6 0, .int .u64 (.var .u64 11), u6 0, u6 0, u6 0, u6 0, u6 0, u6 0]), (4, c [.chan 5]), (5, .chan 1 []), (6, .rows 1 [.i64, .i64, .i64] (y 5) []), (8, c [p 0]), (9, .map [(i6 0, .agg [.func 18 [] [], .func 19 [] [], .bool (.lit true)]), (i6 1, .agg [.func 20 [] [], .func 21 [] [], .bool (.lit false)]), (i6 7, .agg [.func 22 [] [], .func 23 [] [], .bool (.lit false)])]), (10, c [.map 9]), (11, c [p 0]), (12, c [.func 25 [] [p 8, p 10]]), (13, c [.slice 45 0 (.lit 1) (.room 1)]), (14, c [i6 0]), (15, c [.slice 6 0 (y 5) (.room 3)]), (43, c [p 47, .func 94 [] [p 15, p 11, p 14, p 12], .slice 48 0 (y 4) (.room 1)]), (45, c [p 43]), (46, .rows 6 [.i64, .i64, .i64, .i64, .i64, .i64, .i64, .i64] (.bin .add .i64 (y 13) (.lit 1)) []), (47, c [p 49, i6 0, .slice 50 0 (.lit 5) (.room 1)]), (48, .rows 8 [.i64] (y 4) []), (49, c [.func 139 [] [p 51, p 52, p 53, p 54], .ptr0, i6 0, .bool (.lit false)]), (50, c [.func 141 [] [], .func 102 [] [p 55], .func 103 [] [p 56], .func 102 [] [p 57], .func 98 [] [p 11, p 14, p 58]]), (51, c [p 0, i6 0, .int .i64 (.sel .i64 1 1 (y 4))]), (52, c [.int .u64 (.var .u64 9)]), (53, c [u6 73]), (54, c [i6 1]), (55, c [.func 76 [] [p 59, p 60]]), (56, c [p 0, i6 0, .int .i64 (.sel .i64 1 1 (y 4)), .func 20 [] [], .func 21 [] [], .bool (.lit false)]), (57, c [.func 27 [.agg [p 0, i6 0, .int .i64 (.sel .i64 1 1 (y 4)), .func 20 [] [], .func 21 [] [], .bool (.lit false)]] []]), (58, c [.int .i64 (y 4)]), (59, c [p 0, i6 0, .int .i64 (.sel .i64 1 1 (y 4))]), (60, c [.func 74 [] [p 59, p 61, p 62]]), (61, c [i6 0]), (62, c [.int .i64 (.sel .i64 1 1 (y 4))])]
theorem tnTL2k : stepOK tnTLA (stepChk (ev tab tnTLA 1000000) tnB 6 .normal tnTL1T tnTL1L 63 [(62, 61), (61, 60), (60, 62), (54, 671), (53, 670), (52, 669), (51, 668), (50, 677), (49, 672)] 46 tnTL2T tnTL2L 63) = true := by kernel_rfl
noncomputable def tnTL3T : Tr AV := mkT [(0, p 13), (1, .int .i64 (.bin .add .i64 (y 14) (.lit 50))), (5, .int .i64 (.bin .add .i64 (y 6) (.lit 3)))]
def tnTL3L : List (Nat × AO) := [(0, c [i6 1, i6 2, i6 1, p 1, p 2, .int .i32 (.lit 0), .int .u32 (.lit 0), .slice 46 0 (.bin .add .i64 (y 13) (.lit 2)) (.room 8)]), (1, c [.iface 174 (.slice 3 0 (.lit 18) (.known 18)), .int .i64 (.bin .add .i64 (y 6) (.lit 8))]), (2, c [.slice 4 0 (.lit 1) (.known 1)]), (3, c [u6 0, .int .u64 (.var .u64 30), u6 73, u6 134217721, u6 0, u6 0, u6 0, u6 0, u6 0, u6 0, u6 0, .int .u64 (.var .u64 11), u6 0, u6 0, u6 0, u6 0, u6 0, u6 0]), (4, c [.chan 5]), (5, .chan 1 []), (6, .rows 1 [.i64, .i64, .i64] (y 5) []), (8, c [p 0]), (9, .map [(i6 0, .agg [.func 18 [] [], .func 19 [] [], .bool (.lit true)]), (i6 1, .agg [.func 20 [] [], .func 21 [] [], .bool (.lit false)]), (i6 7, .agg [.func 22 [] [], .func 23 [] [], .bool (.lit false)])]), (10, c [.map 9]), (11, c [p 0]), (12, c [.func 25 [] [p 8, p 10]]), (13, c [.slice 45 0 (.lit 1) (.room 1)]), (14, c [i6 0]), (15, c [.slice 6 0 (y 5) (.room 3)]), (43, c [p 47, .func 94 [] [p 15, p 11, p 14, p 12], .slice 48 0 (y 4) (.room 1)]), (45, c [p 43]), (46, .rows 6 [.i64, .i64, .i64, .i64, .i64, .i64, .i64, .i64] (.bin .add .i64 (y 13) (.lit 2)) []), (47, c [p 49, i6 0, .slice 50 0 (.lit 1) (.known 1)]), (48, .rows 8 [.i64] (y 4) []), (49, c [.func 225 [] [p 51, p 52, p 53], .ptr0, i6 0, .bool (.lit false)]), (50, c [.func 100 [] [p 11, p 14, p 54, p 55]]), (51, c [p 1]), (52, c [i6 8]), (53, c [u6 1]), (54, c [.int .i64 (y 4)]), (55, c [i6 0])]
theorem tnTL3k : stepOK tnTLA (stepChk (ev tab tnTLA 1000000) tnB 6 .normal tnTL2T tnTL2L 63 [(55, 86), (54, 58), (53, 91), (52, 90), (51, 89), (50, 95), (49, 92), (46, 78)] 46 tnTL3T tnTL3L 56) = true := by kernel_rfl
theorem tnTL_run {v : Nat → Nat} {arr : Nat → Nat → Nat → Nat} (ha : AsmV tnTLA v arr) (hb : BndA arr) : Rounds Tryz.prog tnB 6 46 ⟨tnKT, tnKL, 61, tnTLA, v, arr⟩ ⟨tnTL3T, tnTL3L, 56, tnTLA, v, arr⟩ := by
  have h1 := Leads.same (fn := 6) (snd tnTLA) tnTL1k ha hb
  have h2 := Leads.same (fn := 6) (snd tnTLA) tnTL2k ha hb
  have h3 := Leads.same (fn := 6) (snd tnTLA) tnTL3k ha hb
  exact .step h1 (.step h2 (Rounds.one h3))
def tnTLdb : Asm := []
def tnTLdl : Asm := [((.cmp .lss .i64 (.bin .add .i64 (y 6) (.lit 3)) (.bin .add .i64 (y 14) (.lit 50))), true),
  ((.cmp .lss .i64 (.bin .rem .i64 (.bin .add .i64 (y 6) (.lit 3)) (.lit 1)) (.lit 0)), false),
  ((.cmp .geq .i64 (.bin .rem .i64 (.bin .add .i64 (y 6) (.lit 3)) (.lit 1)) (.lit 1)), false),
  ((.cmp .eql .i64 (.bin .rem .i64 (.bin .add .i64 (y 6) (.lit 3)) (.lit 1)) (.lit 0)), true),
  ((.cmp .lss .u64 (.bin .add .i64 (y 13) (.lit 2)) (.lit 1048576)), true),
  ((.cmp .lss .u64 (y 4) (.lit 1048576)), true),
  ((.cmp .geq .i64 (.bin .add .i64 (y 4) (.lit 1)) (y 5)), true),
  ((.cmp .eql .i64 (.sel .i64 6 0 (.bin .add .i64 (y 13) (.lit 2))) (.lit 2)), true),
  ((.cmp .eql .i64 (.sel .i64 6 1 (.bin .add .i64 (y 13) (.lit 2))) (.lit 0)), true),
  ((.cmp .eql .i64 (.sel .i64 6 2 (.bin .add .i64 (y 13) (.lit 2))) (y 4)), true),
  ((.cmp .eql .i64 (.sel .i64 6 3 (.bin .add .i64 (y 13) (.lit 2))) (.lit 0)), true),
  ((.cmp .eql .i64 (.sel .i64 6 4 (.bin .add .i64 (y 13) (.lit 2))) (.lit 0)), true),
  ((.cmp .eql .i64 (.sel .i64 6 5 (.bin .add .i64 (y 13) (.lit 2))) (.lit 0)), true),
  ((.cmp .eql .i64 (.sel .i64 6 6 (.bin .add .i64 (y 13) (.lit 2))) (.lit 0)), true),
  ((.cmp .eql .i64 (.sel .i64 6 7 (.bin .add .i64 (y 13) (.lit 2))) (.lit 0)), true),
  ((.cmp .eql .i64 (.sel .i64 8 0 (y 4)) (.lit 0)), true)]
noncomputable def tnTLdA : Asm := lapp tnTLdb tnTLdl
theorem tnTLdA_eq : tnTLdA = tnTLdb ++ tnTLdl := by kernel_rfl
noncomputable def tnTLd1T : Tr AV := mkT [(0, p 13), (1, .int .i64 (.bin .add .i64 (y 14) (.lit 50))), (5, .int .i64 (.bin .add .i64 (y 6) (.lit 4)))]
def tnTLd1L : List (Nat × AO) := [(0, c [i6 1, i6 2, i6 1, p 1, p 2, .int .i32 (.lit 0), .int .u32 (.lit 0), .slice 46 0 (.bin .add .i64 (y 13) (.lit 3)) (.room 8)]), (1, c [.iface 174 (.slice 3 0 (.lit 18) (.known 18)), .int .i64 (.bin .add .i64 (y 6) (.lit 9))]), (2, c [.slice 4 0 (.lit 1) (.known 1)]), (3, c [u6 0, .int .u64 (.var .u64 30), u6 73, u6 134217721, u6 0, u6 0, u6 0, u6 0, u6 1, u6 0, u6 0, .int .u64 (.var .u64 11), u6 0, u6 0, u6 0, u6 0, u6 0, u6 0]), (4, c [.chan 5]), (5, .chan 1 []), (6, .rows 1 [.i64, .i64, .i64] (y 5) []), (8, c [p 0]), (9, .map [(i6 0, .agg [.func 18 [] [], .func 19 [] [], .bool (.lit true)]), (i6 1, .agg [.func 20 [] [], .func 21 [] [], .bool (.lit false)]), (i6 7, .agg [.func 22 [] [], .func 23 [] [], .bool (.lit false)])]), (10, c [.map 9]), (11, c [p 0]), (12, c [.func 25 [] [p 8, p 10]]), (13, c [.slice 45 0 (.lit 1) (.room 1)]), (14, c [i6 0]), (15, c [.slice 6 0 (y 5) (.room 3)]), (43, c [.ptr0, .func 94 [] [p 15, p 11, p 14, p 12], .slice 47 0 (.bin .add .i64 (y 4) (.lit 1)) (.room 1)]), (45, c [p 43]), (46, .rows 6 [.i64, .i64, .i64, .i64, .i64, .i64, .i64, .i64] (.bin .add .i64 (y 13) (.lit 3)) []), (47, .rows 8 [.i64] (.bin .add .i64 (y 4) (.lit 1)) [])]
theorem tnTLd1k : stepOK tnTLdA (stepChk (ev tab tnTLdA 1000000) tnB 6 .normal tnTL3T tnTL3L 56 [(47, 73), (46, 70)] 46 tnTLd1T tnTLd1L 48) = true := by kernel_rfl
theorem tnTLd_run {v : Nat → Nat} {arr : Nat → Nat → Nat → Nat} (ha : AsmV tnTLdA v arr) (hb : BndA arr) : Rounds Tryz.prog tnB 6 46 ⟨tnTL3T, tnTL3L, 56, tnTLdA, v, arr⟩ ⟨tnTLd1T, tnTLd1L, 48, tnTLdA, v, arr⟩ := by
  have h1 := Leads.same (fn := 6) (snd tnTLdA) tnTLd1k ha hb
  exact Rounds.one h1
def tnTLdrE : Eqs := [((y 13), (.bin .add .i64 (y 13) (.lit 3))), ((.bin .add .i64 (y 6) (.lit 5)), (.bin .add .i64 (y 6) (.lit 9))), ((.var .u64 30), (.var .u64 30)), ((.var .u64 9), (.lit 73)), ((.var .u64 11), (.var .u64 11)), ((y 5), (y 5)), ((y 5), (.bin .add .i64 (y 4) (.lit 1))), ((.bin .add .i64 (y 14) (.lit 50)), (.bin .add .i64 (y 14) (.lit 50))), ((y 6), (.bin .add .i64 (y 6) (.lit 4)))]
def tnTLdrR : List RowEq := [⟨1, [.i64, .i64, .i64], (y 5), 1, (y 5), []⟩, ⟨6, [.i64, .i64, .i64, .i64, .i64, .i64, .i64, .i64], (y 13), 6, (.bin .add .i64 (y 13) (.lit 3)), []⟩, ⟨8, [.i64], (y 5), 8, (.bin .add .i64 (y 4) (.lit 1)), []⟩]
theorem tnTLdr_ren : seen [] 46 tnDT tnDL 48 tnTLd1T (mkG tnTLd1L 48) = some (tnTLdrE, tnTLdrR) := by kernel_rfl
end Go.Sx
