/-
  What the variables are, all told; what is known of calls.
-/
import Derived.Test.YtjbigdomdhgdgaaGreatB3
import Derived.Test.YtjbigdomdhgdgaaGreatB5
import Derived.KernelRfl
set_option linter.unusedSimpArgs false
set_option linter.unusedVariables false
set_option linter.unusedSectionVars false
namespace Go.Sx
open Go Go.Proofs
structure TopV (v : Nat → Nat) (arr : Nat → Nat → Nat → Nat) (a b : Nat) : Prop where
  e0 : a = aOf (v 0 % 65536)
  e1 : b = bOf (v 0 % 65536) (v 1 % 65536)
  u2 : v 2 = a
  u3 : v 3 = b
  u5 : v 5 = a + b
  u14 : v 14 = 20 * (a + b)
  u20 : v 20 = wordK a (a + b)
  u21 : v 21 = holdK a (a + b)
  u22 : v 22 = poolK a (a + b)
  u23 : v 23 = iK a (a + b)
  u24 : v 24 = 3 * (a + b)
  u31 : v 31 = a - b
  c1 : ∀ c q, arr 1 c q = callsA a c q
  c6 : ∀ c q, q < 10000 → arr 6 c q = logA a c q
  c7 : ∀ c q, arr 7 c q = 0
  c8 : ∀ c q, arr 8 c q = 0
  bn : BndA arr
def TopP (v : Nat → Nat) (arr : Nat → Nat → Nat → Nat) : Prop := ∃ a b, TopV v arr a b
noncomputable def fxW : Cmd → Option Out := fxFree 4 true
noncomputable def fxM : Cmd → Option Out := both (fxCall 8 [.int .i64 (y 2), .int .i64 (y 3)] dp0L 6 (.slice 6 0 (y 5) (.room 3)) (mkG dpN2L 7)) (fxCall 6 [p 13, .int .i64 (.bin .add .i64 (y 14) (.lit 50))] tn0L 46 (.bool (.lit true)) (mkG tnE2L 47))
end Go.Sx
namespace Go.Sx
open Go Go.Proofs
noncomputable def id0T : Tr AV := mkT [(0, .int .u16 (.var .u16 0)), (1, .int .u16 (.var .u16 1))]
def id0L : List (Nat × AO) := []
def idc0 : XCode := .region [.op q4 (.mv (.con (.bool (.lit false))))]
def id1A : Asm := []
noncomputable def id1T : Tr AV := mkT [(0, .int .u16 (.var .u16 0)), (1, .int .u16 (.var .u16 1))]
def id1L : List (Nat × AO) := []
theorem id1k : stepOK id1A (stepChk (ev tab id1A 1000000) idc0 3 .normal id0T id0L 0 [] 0 id1T id1L 0) = true := by kernel_rfl
theorem id1_lead {v : Nat → Nat} {arr : Nat → Nat → Nat → Nat} (ha : AsmV id1A v arr) (hb : BndA arr) : Leads Tryz.prog idc0 3 .normal 0 ⟨id0T, id0L, 0, id1A, v, arr⟩ ⟨id1T, id1L, 0, id1A, v, arr⟩ := Leads.same (snd id1A) id1k ha hb
def idc1 : XCode := .region [.op q11 (.callF 4 []), .op q12 (.not (.tmp q11))]
def id2A : Asm := []
noncomputable def id2T : Tr AV := mkT [(0, .int .u16 (.var .u16 0)), (1, .int .u16 (.var .u16 1)), (12, .bool (.lit false))]
def id2L : List (Nat × AO) := []
theorem id2k : stepOK id2A (stepChk (evX tab id2A fxW 1000000) idc1 3 .normal id1T id1L 0 [] 0 id2T id2L 0) = true := by kernel_rfl
theorem id2_lead (kn : Known Tryz.prog id2A fxW) {v : Nat → Nat} {arr : Nat → Nat → Nat → Nat} (ha : AsmV id2A v arr) (hb : BndA arr) : Leads Tryz.prog idc1 3 .normal 0 ⟨id1T, id1L, 0, id2A, v, arr⟩ ⟨id2T, id2L, 0, id2A, v, arr⟩ := Leads.same (sndX id2A fxW kn) id2k ha hb
def idc2 : XCode := .cond (.tmp q12) (.seq (.region [.op q4 (.mv (.con (.bool (.lit false))))]) (.ret)) (.skip)
def id3A : Asm := []
noncomputable def id3T : Tr AV := mkT [(0, .int .u16 (.var .u16 0)), (1, .int .u16 (.var .u16 1))]
def id3L : List (Nat × AO) := []
theorem id3k : stepOK id3A (stepChk (ev tab id3A 1000000) idc2 3 .normal id2T id2L 0 [] 0 id3T id3L 0) = true := by kernel_rfl
theorem id3_lead {v : Nat → Nat} {arr : Nat → Nat → Nat → Nat} (ha : AsmV id3A v arr) (hb : BndA arr) : Leads Tryz.prog idc2 3 .normal 0 ⟨id2T, id2L, 0, id3A, v, arr⟩ ⟨id3T, id3L, 0, id3A, v, arr⟩ := Leads.same (snd id3A) id3k ha hb
def idc3 : XCode := .region [.op q13 (.callF 5 [(.con (i6 1)), (.con (i6 1))]), .op q5 (.mv (.tmp q13))]
def id4A : Asm := []
noncomputable def id4T : Tr AV := mkT [(0, .int .u16 (.var .u16 0)), (1, .int .u16 (.var .u16 1)), (5, p 0)]
def id4L : List (Nat × AO) := [(0, c [i6 1, i6 2, i6 1, p 1, p 2, .int .i32 (.lit 0), .int .u32 (.lit 0), .slice0]), (1, c [.iface 174 (.slice 3 0 (.lit 18) (.known 18)), i6 5]), (2, c [.slice 4 0 (.lit 1) (.known 1)]), (3, c [u6 0, u6 1, u6 73, u6 134217721, u6 0, u6 0, u6 0, u6 0, u6 1, u6 0, u6 0, u6 0, u6 0, u6 0, u6 0, u6 0, u6 0, u6 0]), (4, c [.chan 5]), (5, .chan 1 [])]
theorem id4k : stepOK id4A (stepChk (ev tab id4A 1000000) idc3 3 .normal id3T id3L 0 [(5, 9), (4, 7), (3, 5), (2, 8), (1, 6), (0, 10)] 0 id4T id4L 6) = true := by kernel_rfl
theorem id4_lead {v : Nat → Nat} {arr : Nat → Nat → Nat → Nat} (ha : AsmV id4A v arr) (hb : BndA arr) : Leads Tryz.prog idc3 3 .normal 0 ⟨id3T, id3L, 0, id4A, v, arr⟩ ⟨id4T, id4L, 6, id4A, v, arr⟩ := Leads.same (snd id4A) id4k ha hb
def idc4 : XCode := .region [.op q14 (.mv (.tmp q0)), .op q15 (.bin 0 .rem (.tmp q14) (.con (.int .u16 (.lit 600)))), .op q16 (.conv .i64 (.tmp q15)), .op q17 (.bin 0 .add (.con (i6 1)) (.tmp q16)), .op q6 (.mv (.tmp q17))]
def id5A : Asm := [((.cmp .eql .i64 (.bin .add .i64 (.conv .u16 .i64 (.bin .rem .u16 (.var .u16 0) (.lit 600))) (.lit 1)) (y 2)), true)]
noncomputable def id5T : Tr AV := mkT [(1, .int .u16 (.var .u16 1)), (5, p 0), (6, .int .i64 (y 2))]
def id5L : List (Nat × AO) := [(0, c [i6 1, i6 2, i6 1, p 1, p 2, .int .i32 (.lit 0), .int .u32 (.lit 0), .slice0]), (1, c [.iface 174 (.slice 3 0 (.lit 18) (.known 18)), i6 5]), (2, c [.slice 4 0 (.lit 1) (.known 1)]), (3, c [u6 0, u6 1, u6 73, u6 134217721, u6 0, u6 0, u6 0, u6 0, u6 1, u6 0, u6 0, u6 0, u6 0, u6 0, u6 0, u6 0, u6 0, u6 0]), (4, c [.chan 5]), (5, .chan 1 [])]
theorem id5k : stepOK id5A (stepChk (ev tab id5A 1000000) idc4 3 .normal id4T id4L 6 [] 0 id5T id5L 6) = true := by kernel_rfl
theorem id5_lead {v : Nat → Nat} {arr : Nat → Nat → Nat → Nat} (ha : AsmV id5A v arr) (hb : BndA arr) : Leads Tryz.prog idc4 3 .normal 0 ⟨id4T, id4L, 6, id5A, v, arr⟩ ⟨id5T, id5L, 6, id5A, v, arr⟩ := Leads.same (snd id5A) id5k ha hb
def idc5 : XCode := .region [.op q18 (.mv (.tmp q1)), .op q19 (.conv .i64 (.tmp q18)), .op q20 (.mv (.tmp q6)), .op q21 (.bin 0 .add (.tmp q20) (.con (i6 1))), .op q22 (.bin 0 .rem (.tmp q19) (.tmp q21)), .op q7 (.mv (.tmp q22))]
def id6A : Asm := [((.cmp .eql .i64 (.bin .add .i64 (y 2) (.lit 1)) (.lit 0)), false),
  ((.cmp .eql .i64 (.bin .rem .i64 (.conv .u16 .i64 (.var .u16 1)) (.bin .add .i64 (y 2) (.lit 1))) (y 3)), true)]
noncomputable def id6T : Tr AV := mkT [(5, p 0), (6, .int .i64 (y 2)), (7, .int .i64 (y 3))]
def id6L : List (Nat × AO) := [(0, c [i6 1, i6 2, i6 1, p 1, p 2, .int .i32 (.lit 0), .int .u32 (.lit 0), .slice0]), (1, c [.iface 174 (.slice 3 0 (.lit 18) (.known 18)), i6 5]), (2, c [.slice 4 0 (.lit 1) (.known 1)]), (3, c [u6 0, u6 1, u6 73, u6 134217721, u6 0, u6 0, u6 0, u6 0, u6 1, u6 0, u6 0, u6 0, u6 0, u6 0, u6 0, u6 0, u6 0, u6 0]), (4, c [.chan 5]), (5, .chan 1 [])]
theorem id6k : stepOK id6A (stepChk (ev tab id6A 1000000) idc5 3 .normal id5T id5L 6 [] 0 id6T id6L 6) = true := by kernel_rfl
theorem id6_lead {v : Nat → Nat} {arr : Nat → Nat → Nat → Nat} (ha : AsmV id6A v arr) (hb : BndA arr) : Leads Tryz.prog idc5 3 .normal 0 ⟨id5T, id5L, 6, id6A, v, arr⟩ ⟨id6T, id6L, 6, id6A, v, arr⟩ := Leads.same (snd id6A) id6k ha hb
def idc6 : XCode := .region [.op q23 (.mv (.tmp q5)), .op q24 (.mv (.tmp q6)), .op q25 (.mv (.tmp q7)), .op q26 (.callF 8 [(.tmp q24), (.tmp q25)]), .op q27 (.buildSlice [.slice0] 1 [(0, 1, (.tmp q26))]), .op q28 (.callF 7 [(.tmp q23), (.tmp q27)]), .op q29 (.mv (.tmp q6)), .op q30 (.mv (.tmp q7)), .op q31 (.bin 0 .add (.tmp q29) (.tmp q30)), .op q32 (.bin 0 .mul (.con (i6 20)) (.tmp q31)), .op q33 (.bin 0 .add (.tmp q32) (.con (i6 50))), .op q34 (.callF 6 [(.tmp q28), (.tmp q33)]), .op q35 (.not (.tmp q34))]
def id7AF : Asm := [((.cmp .eql .i64 (.bin .add .i64 (.bin .mul .i64 (.lit 20) (.bin .add .i64 (y 2) (y 3))) (.lit 50)) (.bin .add .i64 (y 14) (.lit 50))), true),
  ((.cmp .geq .i64 (.lit 0) (y 5)), false),
  ((.cmp .lss .u64 (.lit 0) (y 5)), true)]
noncomputable def id7A : Asm := ((.prop TopP), true) :: id7AF
noncomputable def id7T : Tr AV := mkT [(5, p 0), (6, .int .i64 (y 2)), (7, .int .i64 (y 3)), (35, .bool (.lit false))]
def id7L : List (Nat × AO) := [(0, c [i6 1, i6 2, i6 1, p 1, p 2, .int .i32 (.lit 0), .int .u32 (.lit 0), .slice 3 0 (y 24) (.room 8)]), (1, c [.iface 174 (.slice 4 0 (.lit 18) (.known 18)), .int .i64 (.bin .add .i64 (y 23) (.lit 5))]), (2, c [.slice 5 0 (.lit 1) (.known 1)]), (3, .rows 6 [.i64, .i64, .i64, .i64, .i64, .i64, .i64, .i64] (y 24) []), (4, c [u6 0, .int .u64 (.var .u64 22), .int .u64 (.var .u64 20), u6 134217721, u6 0, u6 0, u6 0, u6 0, u6 1, u6 0, u6 0, .int .u64 (.var .u64 21), u6 0, u6 0, u6 0, u6 0, u6 0, u6 0]), (5, c [.chan 6]), (6, .chan 1 [])]
theorem id7k : stepOK id7A (stepChk (evX tab id7A fxM 1000000) idc6 3 .normal id6T id6L 6 [(6, 5), (5, 4), (4, 3), (3, 46)] 0 id7T id7L 7) = true := by kernel_rfl
theorem id7_lead (kn : Known Tryz.prog id7A fxM) {v : Nat → Nat} {arr : Nat → Nat → Nat → Nat} (ha : AsmV id7A v arr) (hb : BndA arr) : Leads Tryz.prog idc6 3 .normal 0 ⟨id6T, id6L, 6, id7A, v, arr⟩ ⟨id7T, id7L, 7, id7A, v, arr⟩ := Leads.same (sndX id7A fxM kn) id7k ha hb
def idc7 : XCode := .cond (.tmp q35) (.seq (.region [.op q4 (.mv (.con (.bool (.lit false))))]) (.ret)) (.skip)
def id8A : Asm := []
noncomputable def id8T : Tr AV := mkT [(5, p 0), (6, .int .i64 (y 2)), (7, .int .i64 (y 3))]
def id8L : List (Nat × AO) := [(0, c [i6 1, i6 2, i6 1, p 1, p 2, .int .i32 (.lit 0), .int .u32 (.lit 0), .slice 3 0 (y 24) (.room 8)]), (1, c [.iface 174 (.slice 4 0 (.lit 18) (.known 18)), .int .i64 (.bin .add .i64 (y 23) (.lit 5))]), (2, c [.slice 5 0 (.lit 1) (.known 1)]), (3, .rows 6 [.i64, .i64, .i64, .i64, .i64, .i64, .i64, .i64] (y 24) []), (4, c [u6 0, .int .u64 (.var .u64 22), .int .u64 (.var .u64 20), u6 134217721, u6 0, u6 0, u6 0, u6 0, u6 1, u6 0, u6 0, .int .u64 (.var .u64 21), u6 0, u6 0, u6 0, u6 0, u6 0, u6 0]), (5, c [.chan 6]), (6, .chan 1 [])]
theorem id8k : stepOK id8A (stepChk (ev tab id8A 1000000) idc7 3 .normal id7T id7L 7 [] 0 id8T id8L 7) = true := by kernel_rfl
theorem id8_lead {v : Nat → Nat} {arr : Nat → Nat → Nat → Nat} (ha : AsmV id8A v arr) (hb : BndA arr) : Leads Tryz.prog idc7 3 .normal 0 ⟨id7T, id7L, 7, id8A, v, arr⟩ ⟨id8T, id8L, 7, id8A, v, arr⟩ := Leads.same (snd id8A) id8k ha hb
end Go.Sx
namespace Go.Sx
open Go Go.Proofs
noncomputable def rs0T : Tr AV := mkT [(0, p 0), (1, i6 0)]
def rs0L : List (Nat × AO) := [(0, c [i6 1, i6 2, i6 1, p 1, p 2, .int .i32 (.lit 0), .int .u32 (.lit 0), .slice 3 0 (y 24) (.room 8)]), (1, c [.iface 174 (.slice 4 0 (.lit 18) (.known 18)), .int .i64 (.bin .add .i64 (y 23) (.lit 5))]), (2, c [.slice 5 0 (.lit 1) (.known 1)]), (3, .rows 6 [.i64, .i64, .i64, .i64, .i64, .i64, .i64, .i64] (y 24) []), (4, c [u6 0, .int .u64 (.var .u64 22), .int .u64 (.var .u64 20), u6 134217721, u6 0, u6 0, u6 0, u6 0, u6 1, u6 0, u6 0, .int .u64 (.var .u64 21), u6 0, u6 0, u6 0, u6 0, u6 0, u6 0]), (5, c [.chan 6]), (6, .chan 1 [])]
def rsc0 : XCode := .region [.op q4 (.mv (.con (.slice0)))]
def rs1A : Asm := []
noncomputable def rs1T : Tr AV := mkT [(0, p 0), (1, i6 0)]
def rs1L : List (Nat × AO) := [(0, c [i6 1, i6 2, i6 1, p 1, p 2, .int .i32 (.lit 0), .int .u32 (.lit 0), .slice 3 0 (y 24) (.room 8)]), (1, c [.iface 174 (.slice 4 0 (.lit 18) (.known 18)), .int .i64 (.bin .add .i64 (y 23) (.lit 5))]), (2, c [.slice 5 0 (.lit 1) (.known 1)]), (3, .rows 6 [.i64, .i64, .i64, .i64, .i64, .i64, .i64, .i64] (y 24) []), (4, c [u6 0, .int .u64 (.var .u64 22), .int .u64 (.var .u64 20), u6 134217721, u6 0, u6 0, u6 0, u6 0, u6 1, u6 0, u6 0, .int .u64 (.var .u64 21), u6 0, u6 0, u6 0, u6 0, u6 0, u6 0]), (5, c [.chan 6]), (6, .chan 1 [])]
theorem rs1k : stepOK rs1A (stepChk (ev tab rs1A 1000000) rsc0 9 .normal rs0T rs0L 7 [] 7 rs1T rs1L 7) = true := by kernel_rfl
theorem rs1_lead {v : Nat → Nat} {arr : Nat → Nat → Nat → Nat} (ha : AsmV rs1A v arr) (hb : BndA arr) : Leads Tryz.prog rsc0 9 .normal 7 ⟨rs0T, rs0L, 7, rs1A, v, arr⟩ ⟨rs1T, rs1L, 7, rs1A, v, arr⟩ := Leads.same (snd rs1A) rs1k ha hb
def rsc1 : XCode := .region [.op q5 (.mv (.con (.slice0)))]
def rs2A : Asm := []
noncomputable def rs2T : Tr AV := mkT [(0, p 0), (1, i6 0), (5, .slice0)]
def rs2L : List (Nat × AO) := [(0, c [i6 1, i6 2, i6 1, p 1, p 2, .int .i32 (.lit 0), .int .u32 (.lit 0), .slice 3 0 (y 24) (.room 8)]), (1, c [.iface 174 (.slice 4 0 (.lit 18) (.known 18)), .int .i64 (.bin .add .i64 (y 23) (.lit 5))]), (2, c [.slice 5 0 (.lit 1) (.known 1)]), (3, .rows 6 [.i64, .i64, .i64, .i64, .i64, .i64, .i64, .i64] (y 24) []), (4, c [u6 0, .int .u64 (.var .u64 22), .int .u64 (.var .u64 20), u6 134217721, u6 0, u6 0, u6 0, u6 0, u6 1, u6 0, u6 0, .int .u64 (.var .u64 21), u6 0, u6 0, u6 0, u6 0, u6 0, u6 0]), (5, c [.chan 6]), (6, .chan 1 [])]
theorem rs2k : stepOK rs2A (stepChk (ev tab rs2A 1000000) rsc1 9 .normal rs1T rs1L 7 [] 7 rs2T rs2L 7) = true := by kernel_rfl
theorem rs2_lead {v : Nat → Nat} {arr : Nat → Nat → Nat → Nat} (ha : AsmV rs2A v arr) (hb : BndA arr) : Leads Tryz.prog rsc1 9 .normal 7 ⟨rs1T, rs1L, 7, rs2A, v, arr⟩ ⟨rs2T, rs2L, 7, rs2A, v, arr⟩ := Leads.same (snd rs2A) rs2k ha hb
def rsc2 : XCode := .region [.op q8 (.mv (.tmp q0)), .op q9 (.callF 31 [(.tmp q8)]), .op q6 (.mv (.tmp q9))]
def rs3A : Asm := [((.cmp .lss .u64 (y 24) (.lit 1048576)), true),
  ((.cmp .lss .u64 (.lit 0) (y 24)), true)]
noncomputable def rs3T : Tr AV := mkT [(1, i6 0), (5, .slice0), (6, .slice 7 0 (y 24) (.room 8))]
def rs3L : List (Nat × AO) := [(0, c [i6 1, i6 2, i6 1, p 1, p 2, .int .i32 (.lit 0), .int .u32 (.lit 0), .slice 3 0 (y 24) (.room 8)]), (1, c [.iface 174 (.slice 4 0 (.lit 18) (.known 18)), .int .i64 (.bin .add .i64 (y 23) (.lit 5))]), (2, c [.slice 5 0 (.lit 1) (.known 1)]), (3, .rows 6 [.i64, .i64, .i64, .i64, .i64, .i64, .i64, .i64] (y 24) []), (4, c [u6 0, .int .u64 (.var .u64 22), .int .u64 (.var .u64 20), u6 134217721, u6 0, u6 0, u6 0, u6 0, u6 1, u6 0, u6 0, .int .u64 (.var .u64 21), u6 0, u6 0, u6 0, u6 0, u6 0, u6 0]), (5, c [.chan 6]), (6, .chan 1 []), (7, .rows 6 [.i64, .i64, .i64, .i64, .i64, .i64, .i64, .i64] (y 24) [])]
theorem rs3k : stepOK rs3A (stepChk (ev tab rs3A 1000000) rsc2 9 .normal rs2T rs2L 7 [(7, 8)] 7 rs3T rs3L 8) = true := by kernel_rfl
theorem rs3_lead {v : Nat → Nat} {arr : Nat → Nat → Nat → Nat} (ha : AsmV rs3A v arr) (hb : BndA arr) : Leads Tryz.prog rsc2 9 .normal 7 ⟨rs2T, rs2L, 7, rs3A, v, arr⟩ ⟨rs3T, rs3L, 8, rs3A, v, arr⟩ := Leads.same (snd rs3A) rs3k ha hb
def rsc3 : XCode := .region [.op q7 (.mv (.con (i6 0)))]
def rs4A : Asm := []
noncomputable def rs4T : Tr AV := mkT [(1, i6 0), (5, .slice0), (6, .slice 7 0 (y 24) (.room 8)), (7, i6 0)]
def rs4L : List (Nat × AO) := [(0, c [i6 1, i6 2, i6 1, p 1, p 2, .int .i32 (.lit 0), .int .u32 (.lit 0), .slice 3 0 (y 24) (.room 8)]), (1, c [.iface 174 (.slice 4 0 (.lit 18) (.known 18)), .int .i64 (.bin .add .i64 (y 23) (.lit 5))]), (2, c [.slice 5 0 (.lit 1) (.known 1)]), (3, .rows 6 [.i64, .i64, .i64, .i64, .i64, .i64, .i64, .i64] (y 24) []), (4, c [u6 0, .int .u64 (.var .u64 22), .int .u64 (.var .u64 20), u6 134217721, u6 0, u6 0, u6 0, u6 0, u6 1, u6 0, u6 0, .int .u64 (.var .u64 21), u6 0, u6 0, u6 0, u6 0, u6 0, u6 0]), (5, c [.chan 6]), (6, .chan 1 []), (7, .rows 6 [.i64, .i64, .i64, .i64, .i64, .i64, .i64, .i64] (y 24) [])]
theorem rs4k : stepOK rs4A (stepChk (ev tab rs4A 1000000) rsc3 9 .normal rs3T rs3L 8 [] 7 rs4T rs4L 8) = true := by kernel_rfl
theorem rs4_lead {v : Nat → Nat} {arr : Nat → Nat → Nat → Nat} (ha : AsmV rs4A v arr) (hb : BndA arr) : Leads Tryz.prog rsc3 9 .normal 7 ⟨rs3T, rs3L, 8, rs4A, v, arr⟩ ⟨rs4T, rs4L, 8, rs4A, v, arr⟩ := Leads.same (snd rs4A) rs4k ha hb
def rsB : XCode := .seq (.seq (.region [.op q10 (.mv (.tmp q7)), .op q11 (.mv (.tmp q6)), .op q12 (.len 3 (.tmp q11)), .op q13 (.bin 0 .lss (.tmp q10) (.tmp q12))]) (.cond (.tmp q13) (.skip) (.exit 0))) (.seq (.block 1 (.seq (.region [.op q16 (.mv (.tmp q6)), .op q17 (.mv (.tmp q7)), .op q18 (.idxSl 8 (.tmp q16) (.tmp q17)), .op q19 (.fieldAddr 0 (.tmp q18)), .op q20 (.load none (.tmp q19)), .op q21 (.bin 0 .eql (.tmp q20) (.con (i6 2))), .op q22 (.mv (.tmp q21)), .gop q22 true q23 (.mv (.tmp q6)), .gop q22 true q24 (.mv (.tmp q7)), .gop q22 true q25 (.idxSl 8 (.tmp q23) (.tmp q24)), .gop q22 true q26 (.fieldAddr 1 (.tmp q25)), .gop q22 true q27 (.load none (.tmp q26)), .gop q22 true q28 (.mv (.tmp q1)), .gop q22 true q29 (.bin 0 .eql (.tmp q27) (.tmp q28)), .op q30 (.pick (.tmp q22) (.tmp q29) (.con (.bool (.lit false))))]) (.cond (.tmp q30) (.region [.op q31 (.mv (.tmp q5)), .op q32 (.mv (.tmp q6)), .op q33 (.mv (.tmp q7)), .op q34 (.idxSl 8 (.tmp q32) (.tmp q33)), .op q35 (.fieldAddr 6 (.tmp q34)), .op q36 (.load (some 2) (.tmp q35)), .op q37 (.buildSlice [i6 0, i6 0] 1 [(0, 2, (.tmp q36))]), .op q38 (.append 2 16 (.tmp q31) (.tmp q37)), .op q5 (.mv (.tmp q38))]) (.skip)))) (.region [.op q14 (.mv (.tmp q7)), .op q15 (.bin 0 .add (.tmp q14) (.con (i6 1))), .op q7 (.mv (.tmp q15))]))
noncomputable def rsKT : Tr AV := mkT [(1, i6 0), (5, .slice 7 0 (y 27) (.room 2)), (6, .slice 8 0 (y 24) (.room 8)), (7, .int .i64 (y 28))]
def rsKL : List (Nat × AO) := [(0, c [i6 1, i6 2, i6 1, p 1, p 2, .int .i32 (.lit 0), .int .u32 (.lit 0), .slice 3 0 (y 24) (.room 8)]), (1, c [.iface 174 (.slice 4 0 (.lit 18) (.known 18)), .int .i64 (.bin .add .i64 (y 23) (.lit 5))]), (2, c [.slice 5 0 (.lit 1) (.known 1)]), (3, .rows 6 [.i64, .i64, .i64, .i64, .i64, .i64, .i64, .i64] (y 24) []), (4, c [u6 0, .int .u64 (.var .u64 22), .int .u64 (.var .u64 20), u6 134217721, u6 0, u6 0, u6 0, u6 0, u6 1, u6 0, u6 0, .int .u64 (.var .u64 21), u6 0, u6 0, u6 0, u6 0, u6 0, u6 0]), (5, c [.chan 6]), (6, .chan 1 []), (7, .rows 7 [.i64, .i64] (y 27) []), (8, .rows 6 [.i64, .i64, .i64, .i64, .i64, .i64, .i64, .i64] (y 24) [])]
def rsab : Asm := []
def rsal : Asm := [((.cmp .lss .i64 (.lit 0) (y 24)), true),
  ((.cmp .lss .u64 (.lit 0) (y 24)), true),
  ((.cmp .eql .i64 (.sel .i64 6 0 (.lit 0)) (.lit 2)), false),
  ((.cmp .lss .i64 (.lit 1) (y 24)), true),
  ((.cmp .lss .u64 (.lit 1) (y 24)), true),
  ((.cmp .eql .i64 (.sel .i64 6 0 (.lit 1)) (.lit 2)), false),
  ((.cmp .lss .i64 (.lit 2) (y 24)), true),
  ((.cmp .lss .u64 (.lit 2) (y 24)), true),
  ((.cmp .eql .i64 (.sel .i64 6 0 (.lit 2)) (.lit 2)), true),
  ((.cmp .eql .i64 (.sel .i64 6 1 (.lit 2)) (.lit 0)), true),
  ((.cmp .eql .i64 (.sel .i64 7 0 (.lit 0)) (.sel .i64 6 6 (.lit 2))), true),
  ((.cmp .eql .i64 (.sel .i64 7 1 (.lit 0)) (.sel .i64 6 7 (.lit 2))), true)]
noncomputable def rsaA : Asm := lapp rsab rsal
theorem rsaA_eq : rsaA = rsab ++ rsal := by kernel_rfl
noncomputable def rsa1T : Tr AV := mkT [(1, i6 0), (5, .slice0), (6, .slice 7 0 (y 24) (.room 8)), (7, i6 1)]
def rsa1L : List (Nat × AO) := [(0, c [i6 1, i6 2, i6 1, p 1, p 2, .int .i32 (.lit 0), .int .u32 (.lit 0), .slice 3 0 (y 24) (.room 8)]), (1, c [.iface 174 (.slice 4 0 (.lit 18) (.known 18)), .int .i64 (.bin .add .i64 (y 23) (.lit 5))]), (2, c [.slice 5 0 (.lit 1) (.known 1)]), (3, .rows 6 [.i64, .i64, .i64, .i64, .i64, .i64, .i64, .i64] (y 24) []), (4, c [u6 0, .int .u64 (.var .u64 22), .int .u64 (.var .u64 20), u6 134217721, u6 0, u6 0, u6 0, u6 0, u6 1, u6 0, u6 0, .int .u64 (.var .u64 21), u6 0, u6 0, u6 0, u6 0, u6 0, u6 0]), (5, c [.chan 6]), (6, .chan 1 []), (7, .rows 6 [.i64, .i64, .i64, .i64, .i64, .i64, .i64, .i64] (y 24) [])]
theorem rsa1k : stepOK rsaA (stepChk (ev tab rsaA 1000000) rsB 9 .normal rs4T rs4L 8 [] 7 rsa1T rsa1L 8) = true := by kernel_rfl
noncomputable def rsa2T : Tr AV := mkT [(1, i6 0), (5, .slice0), (6, .slice 7 0 (y 24) (.room 8)), (7, i6 2)]
def rsa2L : List (Nat × AO) := [(0, c [i6 1, i6 2, i6 1, p 1, p 2, .int .i32 (.lit 0), .int .u32 (.lit 0), .slice 3 0 (y 24) (.room 8)]), (1, c [.iface 174 (.slice 4 0 (.lit 18) (.known 18)), .int .i64 (.bin .add .i64 (y 23) (.lit 5))]), (2, c [.slice 5 0 (.lit 1) (.known 1)]), (3, .rows 6 [.i64, .i64, .i64, .i64, .i64, .i64, .i64, .i64] (y 24) []), (4, c [u6 0, .int .u64 (.var .u64 22), .int .u64 (.var .u64 20), u6 134217721, u6 0, u6 0, u6 0, u6 0, u6 1, u6 0, u6 0, .int .u64 (.var .u64 21), u6 0, u6 0, u6 0, u6 0, u6 0, u6 0]), (5, c [.chan 6]), (6, .chan 1 []), (7, .rows 6 [.i64, .i64, .i64, .i64, .i64, .i64, .i64, .i64] (y 24) [])]
theorem rsa2k : stepOK rsaA (stepChk (ev tab rsaA 1000000) rsB 9 .normal rsa1T rsa1L 8 [] 7 rsa2T rsa2L 8) = true := by kernel_rfl
noncomputable def rsa3T : Tr AV := mkT [(1, i6 0), (5, .slice 7 0 (.lit 1) (.room 2)), (6, .slice 8 0 (y 24) (.room 8)), (7, i6 3)]
def rsa3L : List (Nat × AO) := [(0, c [i6 1, i6 2, i6 1, p 1, p 2, .int .i32 (.lit 0), .int .u32 (.lit 0), .slice 3 0 (y 24) (.room 8)]), (1, c [.iface 174 (.slice 4 0 (.lit 18) (.known 18)), .int .i64 (.bin .add .i64 (y 23) (.lit 5))]), (2, c [.slice 5 0 (.lit 1) (.known 1)]), (3, .rows 6 [.i64, .i64, .i64, .i64, .i64, .i64, .i64, .i64] (y 24) []), (4, c [u6 0, .int .u64 (.var .u64 22), .int .u64 (.var .u64 20), u6 134217721, u6 0, u6 0, u6 0, u6 0, u6 1, u6 0, u6 0, .int .u64 (.var .u64 21), u6 0, u6 0, u6 0, u6 0, u6 0, u6 0]), (5, c [.chan 6]), (6, .chan 1 []), (7, .rows 7 [.i64, .i64] (.lit 1) []), (8, .rows 6 [.i64, .i64, .i64, .i64, .i64, .i64, .i64, .i64] (y 24) [])]
theorem rsa3k : stepOK rsaA (stepChk (ev tab rsaA 1000000) rsB 9 .normal rsa2T rsa2L 8 [(8, 7), (7, 9)] 7 rsa3T rsa3L 9) = true := by kernel_rfl
theorem rsa_run {v : Nat → Nat} {arr : Nat → Nat → Nat → Nat} (ha : AsmV rsaA v arr) (hb : BndA arr) : Rounds Tryz.prog rsB 9 7 ⟨rs4T, rs4L, 8, rsaA, v, arr⟩ ⟨rsa3T, rsa3L, 9, rsaA, v, arr⟩ := by
  have h1 := Leads.same (fn := 9) (snd rsaA) rsa1k ha hb
  have h2 := Leads.same (fn := 9) (snd rsaA) rsa2k ha hb
  have h3 := Leads.same (fn := 9) (snd rsaA) rsa3k ha hb
  exact .step h1 (.step h2 (Rounds.one h3))
def rsarE : Eqs := [((y 24), (y 24)), ((.bin .add .i64 (y 23) (.lit 5)), (.bin .add .i64 (y 23) (.lit 5))), ((.var .u64 22), (.var .u64 22)), ((.var .u64 20), (.var .u64 20)), ((.var .u64 21), (.var .u64 21)), ((y 28), (.lit 3)), ((y 27), (.lit 1)), ((y 24), (y 24))]
def rsarR : List RowEq := [⟨6, [.i64, .i64, .i64, .i64, .i64, .i64, .i64, .i64], (y 24), 6, (y 24), []⟩, ⟨7, [.i64, .i64], (y 27), 7, (.lit 1), []⟩, ⟨6, [.i64, .i64, .i64, .i64, .i64, .i64, .i64, .i64], (y 24), 6, (y 24), []⟩]
theorem rsar_ren : seen [] 7 rsKT rsKL 9 rsa3T (mkG rsa3L 9) = some (rsarE, rsarR) := by kernel_rfl
def rsbb : Asm := []
def rsbl : Asm := [((.cmp .lss .i64 (y 28) (y 24)), true),
  ((.cmp .lss .u64 (y 28) (y 24)), true),
  ((.cmp .eql .i64 (.sel .i64 6 0 (y 28)) (.lit 2)), false),
  ((.cmp .lss .i64 (.bin .add .i64 (y 28) (.lit 1)) (y 24)), true),
  ((.cmp .lss .u64 (.bin .add .i64 (y 28) (.lit 1)) (y 24)), true),
  ((.cmp .eql .i64 (.sel .i64 6 0 (.bin .add .i64 (y 28) (.lit 1))) (.lit 2)), false),
  ((.cmp .lss .i64 (.bin .add .i64 (y 28) (.lit 2)) (y 24)), true),
  ((.cmp .lss .u64 (.bin .add .i64 (y 28) (.lit 2)) (y 24)), true),
  ((.cmp .eql .i64 (.sel .i64 6 0 (.bin .add .i64 (y 28) (.lit 2))) (.lit 2)), true),
  ((.cmp .eql .i64 (.sel .i64 6 1 (.bin .add .i64 (y 28) (.lit 2))) (.lit 0)), true),
  ((.cmp .lss .u64 (y 27) (.lit 1048576)), true),
  ((.cmp .eql .i64 (.sel .i64 7 0 (y 27)) (.sel .i64 6 6 (.bin .add .i64 (y 28) (.lit 2)))), true),
  ((.cmp .eql .i64 (.sel .i64 7 1 (y 27)) (.sel .i64 6 7 (.bin .add .i64 (y 28) (.lit 2)))), true)]
noncomputable def rsbA : Asm := lapp rsbb rsbl
theorem rsbA_eq : rsbA = rsbb ++ rsbl := by kernel_rfl
noncomputable def rsb1T : Tr AV := mkT [(1, i6 0), (5, .slice 7 0 (y 27) (.room 2)), (6, .slice 8 0 (y 24) (.room 8)), (7, .int .i64 (.bin .add .i64 (y 28) (.lit 1)))]
def rsb1L : List (Nat × AO) := [(0, c [i6 1, i6 2, i6 1, p 1, p 2, .int .i32 (.lit 0), .int .u32 (.lit 0), .slice 3 0 (y 24) (.room 8)]), (1, c [.iface 174 (.slice 4 0 (.lit 18) (.known 18)), .int .i64 (.bin .add .i64 (y 23) (.lit 5))]), (2, c [.slice 5 0 (.lit 1) (.known 1)]), (3, .rows 6 [.i64, .i64, .i64, .i64, .i64, .i64, .i64, .i64] (y 24) []), (4, c [u6 0, .int .u64 (.var .u64 22), .int .u64 (.var .u64 20), u6 134217721, u6 0, u6 0, u6 0, u6 0, u6 1, u6 0, u6 0, .int .u64 (.var .u64 21), u6 0, u6 0, u6 0, u6 0, u6 0, u6 0]), (5, c [.chan 6]), (6, .chan 1 []), (7, .rows 7 [.i64, .i64] (y 27) []), (8, .rows 6 [.i64, .i64, .i64, .i64, .i64, .i64, .i64, .i64] (y 24) [])]
theorem rsb1k : stepOK rsbA (stepChk (ev tab rsbA 1000000) rsB 9 .normal rsKT rsKL 9 [] 7 rsb1T rsb1L 9) = true := by kernel_rfl
noncomputable def rsb2T : Tr AV := mkT [(1, i6 0), (5, .slice 7 0 (y 27) (.room 2)), (6, .slice 8 0 (y 24) (.room 8)), (7, .int .i64 (.bin .add .i64 (y 28) (.lit 2)))]
def rsb2L : List (Nat × AO) := [(0, c [i6 1, i6 2, i6 1, p 1, p 2, .int .i32 (.lit 0), .int .u32 (.lit 0), .slice 3 0 (y 24) (.room 8)]), (1, c [.iface 174 (.slice 4 0 (.lit 18) (.known 18)), .int .i64 (.bin .add .i64 (y 23) (.lit 5))]), (2, c [.slice 5 0 (.lit 1) (.known 1)]), (3, .rows 6 [.i64, .i64, .i64, .i64, .i64, .i64, .i64, .i64] (y 24) []), (4, c [u6 0, .int .u64 (.var .u64 22), .int .u64 (.var .u64 20), u6 134217721, u6 0, u6 0, u6 0, u6 0, u6 1, u6 0, u6 0, .int .u64 (.var .u64 21), u6 0, u6 0, u6 0, u6 0, u6 0, u6 0]), (5, c [.chan 6]), (6, .chan 1 []), (7, .rows 7 [.i64, .i64] (y 27) []), (8, .rows 6 [.i64, .i64, .i64, .i64, .i64, .i64, .i64, .i64] (y 24) [])]
theorem rsb2k : stepOK rsbA (stepChk (ev tab rsbA 1000000) rsB 9 .normal rsb1T rsb1L 9 [] 7 rsb2T rsb2L 9) = true := by kernel_rfl
noncomputable def rsb3T : Tr AV := mkT [(1, i6 0), (5, .slice 7 0 (.bin .add .i64 (y 27) (.lit 1)) (.room 2)), (6, .slice 8 0 (y 24) (.room 8)), (7, .int .i64 (.bin .add .i64 (y 28) (.lit 3)))]
def rsb3L : List (Nat × AO) := [(0, c [i6 1, i6 2, i6 1, p 1, p 2, .int .i32 (.lit 0), .int .u32 (.lit 0), .slice 3 0 (y 24) (.room 8)]), (1, c [.iface 174 (.slice 4 0 (.lit 18) (.known 18)), .int .i64 (.bin .add .i64 (y 23) (.lit 5))]), (2, c [.slice 5 0 (.lit 1) (.known 1)]), (3, .rows 6 [.i64, .i64, .i64, .i64, .i64, .i64, .i64, .i64] (y 24) []), (4, c [u6 0, .int .u64 (.var .u64 22), .int .u64 (.var .u64 20), u6 134217721, u6 0, u6 0, u6 0, u6 0, u6 1, u6 0, u6 0, .int .u64 (.var .u64 21), u6 0, u6 0, u6 0, u6 0, u6 0, u6 0]), (5, c [.chan 6]), (6, .chan 1 []), (7, .rows 7 [.i64, .i64] (.bin .add .i64 (y 27) (.lit 1)) []), (8, .rows 6 [.i64, .i64, .i64, .i64, .i64, .i64, .i64, .i64] (y 24) [])]
theorem rsb3k : stepOK rsbA (stepChk (ev tab rsbA 1000000) rsB 9 .normal rsb2T rsb2L 9 [(7, 10)] 7 rsb3T rsb3L 9) = true := by kernel_rfl
theorem rsb_run {v : Nat → Nat} {arr : Nat → Nat → Nat → Nat} (ha : AsmV rsbA v arr) (hb : BndA arr) : Rounds Tryz.prog rsB 9 7 ⟨rsKT, rsKL, 9, rsbA, v, arr⟩ ⟨rsb3T, rsb3L, 9, rsbA, v, arr⟩ := by
  have h1 := Leads.same (fn := 9) (snd rsbA) rsb1k ha hb
  have h2 := Leads.same (fn := 9) (snd rsbA) rsb2k ha hb
  have h3 := Leads.same (fn := 9) (snd rsbA) rsb3k ha hb
  exact .step h1 (.step h2 (Rounds.one h3))
def rsbrE : Eqs := [((y 24), (y 24)), ((.bin .add .i64 (y 23) (.lit 5)), (.bin .add .i64 (y 23) (.lit 5))), ((.var .u64 22), (.var .u64 22)), ((.var .u64 20), (.var .u64 20)), ((.var .u64 21), (.var .u64 21)), ((y 28), (.bin .add .i64 (y 28) (.lit 3))), ((y 27), (.bin .add .i64 (y 27) (.lit 1))), ((y 24), (y 24))]
def rsbrR : List RowEq := [⟨6, [.i64, .i64, .i64, .i64, .i64, .i64, .i64, .i64], (y 24), 6, (y 24), []⟩, ⟨7, [.i64, .i64], (y 27), 7, (.bin .add .i64 (y 27) (.lit 1)), []⟩, ⟨6, [.i64, .i64, .i64, .i64, .i64, .i64, .i64, .i64], (y 24), 6, (y 24), []⟩]
theorem rsbr_ren : seen [] 7 rsKT rsKL 9 rsb3T (mkG rsb3L 9) = some (rsbrE, rsbrR) := by kernel_rfl
def rsxb : Asm := []
def rsxl : Asm := [((.cmp .lss .i64 (y 28) (y 24)), false)]
noncomputable def rsxA : Asm := lapp rsxb rsxl
theorem rsxA_eq : rsxA = rsxb ++ rsxl := by kernel_rfl
noncomputable def rsx1T : Tr AV := mkT [(5, .slice 7 0 (y 27) (.room 2))]
def rsx1L : List (Nat × AO) := [(0, c [i6 1, i6 2, i6 1, p 1, p 2, .int .i32 (.lit 0), .int .u32 (.lit 0), .slice 3 0 (y 24) (.room 8)]), (1, c [.iface 174 (.slice 4 0 (.lit 18) (.known 18)), .int .i64 (.bin .add .i64 (y 23) (.lit 5))]), (2, c [.slice 5 0 (.lit 1) (.known 1)]), (3, .rows 6 [.i64, .i64, .i64, .i64, .i64, .i64, .i64, .i64] (y 24) []), (4, c [u6 0, .int .u64 (.var .u64 22), .int .u64 (.var .u64 20), u6 134217721, u6 0, u6 0, u6 0, u6 0, u6 1, u6 0, u6 0, .int .u64 (.var .u64 21), u6 0, u6 0, u6 0, u6 0, u6 0, u6 0]), (5, c [.chan 6]), (6, .chan 1 []), (7, .rows 7 [.i64, .i64] (y 27) [])]
theorem rsx1k : stepOK rsxA (stepChk (ev tab rsxA 1000000) rsB 9 (.exit 0) rsKT rsKL 9 [] 7 rsx1T rsx1L 8) = true := by kernel_rfl
theorem rsx_out {v : Nat → Nat} {arr : Nat → Nat → Nat → Nat} (ha : AsmV rsxA v arr) (hb : BndA arr) : Leads Tryz.prog rsB 9 (.exit 0) 7 ⟨rsKT, rsKL, 9, rsxA, v, arr⟩ ⟨rsx1T, rsx1L, 8, rsxA, v, arr⟩ := by
  have h1 := Leads.same (fn := 9) (snd rsxA) rsx1k ha hb
  exact h1
noncomputable def rsET : Tr AV := mkT [(5, .slice 7 0 (y 5) (.room 2))]
def rsEL : List (Nat × AO) := [(0, c [i6 1, i6 2, i6 1, p 1, p 2, .int .i32 (.lit 0), .int .u32 (.lit 0), .slice 3 0 (y 24) (.room 8)]), (1, c [.iface 174 (.slice 4 0 (.lit 18) (.known 18)), .int .i64 (.bin .add .i64 (y 23) (.lit 5))]), (2, c [.slice 5 0 (.lit 1) (.known 1)]), (3, .rows 6 [.i64, .i64, .i64, .i64, .i64, .i64, .i64, .i64] (y 24) []), (4, c [u6 0, .int .u64 (.var .u64 22), .int .u64 (.var .u64 20), u6 134217721, u6 0, u6 0, u6 0, u6 0, u6 1, u6 0, u6 0, .int .u64 (.var .u64 21), u6 0, u6 0, u6 0, u6 0, u6 0, u6 0]), (5, c [.chan 6]), (6, .chan 1 []), (7, .rows 7 [.i64, .i64] (y 5) [])]
def rsxrE : Eqs := [((y 24), (y 24)), ((.bin .add .i64 (y 23) (.lit 5)), (.bin .add .i64 (y 23) (.lit 5))), ((.var .u64 22), (.var .u64 22)), ((.var .u64 20), (.var .u64 20)), ((.var .u64 21), (.var .u64 21)), ((y 5), (y 27))]
def rsxrR : List RowEq := [⟨6, [.i64, .i64, .i64, .i64, .i64, .i64, .i64, .i64], (y 24), 6, (y 24), []⟩, ⟨7, [.i64, .i64], (y 5), 7, (y 27), []⟩]
theorem rsxr_ren : seen [] 7 rsET rsEL 8 rsx1T (mkG rsx1L 8) = some (rsxrE, rsxrR) := by kernel_rfl
def rsc5 : XCode := .region [.op q39 (.mv (.tmp q5)), .op q4 (.mv (.tmp q39))]
def rsE5A : Asm := []
noncomputable def rsE5T : Tr AV := mkT [(4, .slice 7 0 (y 5) (.room 2))]
def rsE5L : List (Nat × AO) := [(0, c [i6 1, i6 2, i6 1, p 1, p 2, .int .i32 (.lit 0), .int .u32 (.lit 0), .slice 3 0 (y 24) (.room 8)]), (1, c [.iface 174 (.slice 4 0 (.lit 18) (.known 18)), .int .i64 (.bin .add .i64 (y 23) (.lit 5))]), (2, c [.slice 5 0 (.lit 1) (.known 1)]), (3, .rows 6 [.i64, .i64, .i64, .i64, .i64, .i64, .i64, .i64] (y 24) []), (4, c [u6 0, .int .u64 (.var .u64 22), .int .u64 (.var .u64 20), u6 134217721, u6 0, u6 0, u6 0, u6 0, u6 1, u6 0, u6 0, .int .u64 (.var .u64 21), u6 0, u6 0, u6 0, u6 0, u6 0, u6 0]), (5, c [.chan 6]), (6, .chan 1 []), (7, .rows 7 [.i64, .i64] (y 5) [])]
theorem rsE5k : stepOK rsE5A (stepChk (ev tab rsE5A 1000000) rsc5 9 .normal rsET rsEL 8 [] 7 rsE5T rsE5L 8) = true := by kernel_rfl
theorem rsE5_lead {v : Nat → Nat} {arr : Nat → Nat → Nat → Nat} (ha : AsmV rsE5A v arr) (hb : BndA arr) : Leads Tryz.prog rsc5 9 .normal 7 ⟨rsET, rsEL, 8, rsE5A, v, arr⟩ ⟨rsE5T, rsE5L, 8, rsE5A, v, arr⟩ := Leads.same (snd rsE5A) rsE5k ha hb
def rsE6A : Asm := []
noncomputable def rsE6T : Tr AV := mkT [(4, .slice 7 0 (y 5) (.room 2))]
def rsE6L : List (Nat × AO) := [(0, c [i6 1, i6 2, i6 1, p 1, p 2, .int .i32 (.lit 0), .int .u32 (.lit 0), .slice 3 0 (y 24) (.room 8)]), (1, c [.iface 174 (.slice 4 0 (.lit 18) (.known 18)), .int .i64 (.bin .add .i64 (y 23) (.lit 5))]), (2, c [.slice 5 0 (.lit 1) (.known 1)]), (3, .rows 6 [.i64, .i64, .i64, .i64, .i64, .i64, .i64, .i64] (y 24) []), (4, c [u6 0, .int .u64 (.var .u64 22), .int .u64 (.var .u64 20), u6 134217721, u6 0, u6 0, u6 0, u6 0, u6 1, u6 0, u6 0, .int .u64 (.var .u64 21), u6 0, u6 0, u6 0, u6 0, u6 0, u6 0]), (5, c [.chan 6]), (6, .chan 1 []), (7, .rows 7 [.i64, .i64] (y 5) [])]
theorem rsE6k : stepOK rsE6A (stepChk (ev tab rsE6A 1000000) .ret 9 .ret rsE5T rsE5L 8 [] 7 rsE6T rsE6L 8) = true := by kernel_rfl
theorem rsE6_lead {v : Nat → Nat} {arr : Nat → Nat → Nat → Nat} (ha : AsmV rsE6A v arr) (hb : BndA arr) : Leads Tryz.prog .ret 9 .ret 7 ⟨rsE5T, rsE5L, 8, rsE6A, v, arr⟩ ⟨rsE6T, rsE6L, 8, rsE6A, v, arr⟩ := Leads.same (snd rsE6A) rsE6k ha hb
end Go.Sx
namespace Go.Sx
open Go Go.Proofs
noncomputable def fxR : Cmd → Option Out := fxCall 9 [p 0, i6 0] rs0L 7 (.slice 7 0 (y 5) (.room 2)) (mkG rsE6L 8)
end Go.Sx
namespace Go.Sx
open Go Go.Proofs
def idc8 : XCode := .region [.op q36 (.mv (.tmp q5)), .op q37 (.callF 9 [(.tmp q36), (.con (i6 0))]), .op q8 (.mv (.tmp q37))]
def id9AF : Asm := []
noncomputable def id9A : Asm := ((.prop TopP), true) :: id9AF
noncomputable def id9T : Tr AV := mkT [(5, p 0), (6, .int .i64 (y 2)), (7, .int .i64 (y 3)), (8, .slice 1 0 (y 5) (.room 2))]
def id9L : List (Nat × AO) := [(0, c [i6 1, i6 2, i6 1, p 2, p 3, .int .i32 (.lit 0), .int .u32 (.lit 0), .slice 4 0 (y 24) (.room 8)]), (1, .rows 7 [.i64, .i64] (y 5) []), (2, c [.iface 174 (.slice 5 0 (.lit 18) (.known 18)), .int .i64 (.bin .add .i64 (y 23) (.lit 5))]), (3, c [.slice 6 0 (.lit 1) (.known 1)]), (4, .rows 6 [.i64, .i64, .i64, .i64, .i64, .i64, .i64, .i64] (y 24) []), (5, c [u6 0, .int .u64 (.var .u64 22), .int .u64 (.var .u64 20), u6 134217721, u6 0, u6 0, u6 0, u6 0, u6 1, u6 0, u6 0, .int .u64 (.var .u64 21), u6 0, u6 0, u6 0, u6 0, u6 0, u6 0]), (6, c [.chan 7]), (7, .chan 1 [])]
theorem id9k : stepOK id9A (stepChk (evX tab id9A fxR 1000000) idc8 3 .normal id8T id8L 7 [(7, 6), (6, 5), (5, 4), (4, 3), (3, 2), (2, 1), (1, 7)] 0 id9T id9L 8) = true := by kernel_rfl
theorem id9_lead (kn : Known Tryz.prog id9A fxR) {v : Nat → Nat} {arr : Nat → Nat → Nat → Nat} (ha : AsmV id9A v arr) (hb : BndA arr) : Leads Tryz.prog idc8 3 .normal 0 ⟨id8T, id8L, 7, id9A, v, arr⟩ ⟨id9T, id9L, 8, id9A, v, arr⟩ := Leads.same (sndX id9A fxR kn) id9k ha hb
def idc9 : XCode := .region [.op q9 (.mv (.con (i6 0)))]
def id10A : Asm := []
noncomputable def id10T : Tr AV := mkT [(5, p 0), (6, .int .i64 (y 2)), (7, .int .i64 (y 3)), (8, .slice 1 0 (y 5) (.room 2)), (9, i6 0)]
def id10L : List (Nat × AO) := [(0, c [i6 1, i6 2, i6 1, p 2, p 3, .int .i32 (.lit 0), .int .u32 (.lit 0), .slice 4 0 (y 24) (.room 8)]), (1, .rows 7 [.i64, .i64] (y 5) []), (2, c [.iface 174 (.slice 5 0 (.lit 18) (.known 18)), .int .i64 (.bin .add .i64 (y 23) (.lit 5))]), (3, c [.slice 6 0 (.lit 1) (.known 1)]), (4, .rows 6 [.i64, .i64, .i64, .i64, .i64, .i64, .i64, .i64] (y 24) []), (5, c [u6 0, .int .u64 (.var .u64 22), .int .u64 (.var .u64 20), u6 134217721, u6 0, u6 0, u6 0, u6 0, u6 1, u6 0, u6 0, .int .u64 (.var .u64 21), u6 0, u6 0, u6 0, u6 0, u6 0, u6 0]), (6, c [.chan 7]), (7, .chan 1 [])]
theorem id10k : stepOK id10A (stepChk (ev tab id10A 1000000) idc9 3 .normal id9T id9L 8 [] 0 id10T id10L 8) = true := by kernel_rfl
theorem id10_lead {v : Nat → Nat} {arr : Nat → Nat → Nat → Nat} (ha : AsmV id10A v arr) (hb : BndA arr) : Leads Tryz.prog idc9 3 .normal 0 ⟨id9T, id9L, 8, id10A, v, arr⟩ ⟨id10T, id10L, 8, id10A, v, arr⟩ := Leads.same (snd id10A) id10k ha hb
def idB : XCode := .seq (.seq (.region [.op q38 (.mv (.tmp q9)), .op q39 (.mv (.tmp q8)), .op q40 (.len 3 (.tmp q39)), .op q41 (.bin 0 .lss (.tmp q38) (.tmp q40))]) (.cond (.tmp q41) (.skip) (.exit 0))) (.seq (.block 1 (.seq (.region [.op q44 (.mv (.tmp q8)), .op q45 (.mv (.tmp q9)), .op q46 (.idxSl 2 (.tmp q44) (.tmp q45)), .op q47 (.load (some 2) (.tmp q46)), .op q48 (.build [i6 0, i6 0] []), .op q49 (.bin 11 .neq (.tmp q47) (.tmp q48))]) (.cond (.tmp q49) (.seq (.region [.op q4 (.mv (.con (.bool (.lit false))))]) (.ret)) (.skip)))) (.region [.op q42 (.mv (.tmp q9)), .op q43 (.bin 0 .add (.tmp q42) (.con (i6 1))), .op q9 (.mv (.tmp q43))]))
noncomputable def idKT : Tr AV := mkT [(5, p 0), (6, .int .i64 (y 2)), (7, .int .i64 (y 3)), (8, .slice 1 0 (y 5) (.room 2)), (9, .int .i64 (y 29))]
def idKL : List (Nat × AO) := [(0, c [i6 1, i6 2, i6 1, p 2, p 3, .int .i32 (.lit 0), .int .u32 (.lit 0), .slice 4 0 (y 24) (.room 8)]), (1, .rows 7 [.i64, .i64] (y 5) []), (2, c [.iface 174 (.slice 5 0 (.lit 18) (.known 18)), .int .i64 (.bin .add .i64 (y 23) (.lit 5))]), (3, c [.slice 6 0 (.lit 1) (.known 1)]), (4, .rows 6 [.i64, .i64, .i64, .i64, .i64, .i64, .i64, .i64] (y 24) []), (5, c [u6 0, .int .u64 (.var .u64 22), .int .u64 (.var .u64 20), u6 134217721, u6 0, u6 0, u6 0, u6 0, u6 1, u6 0, u6 0, .int .u64 (.var .u64 21), u6 0, u6 0, u6 0, u6 0, u6 0, u6 0]), (6, c [.chan 7]), (7, .chan 1 [])]
def id10rE : Eqs := [((y 24), (y 24)), ((.bin .add .i64 (y 23) (.lit 5)), (.bin .add .i64 (y 23) (.lit 5))), ((.var .u64 22), (.var .u64 22)), ((.var .u64 20), (.var .u64 20)), ((.var .u64 21), (.var .u64 21)), ((y 3), (y 3)), ((y 29), (.lit 0)), ((y 5), (y 5)), ((y 2), (y 2))]
def id10rR : List RowEq := [⟨7, [.i64, .i64], (y 5), 7, (y 5), []⟩, ⟨6, [.i64, .i64, .i64, .i64, .i64, .i64, .i64, .i64], (y 24), 6, (y 24), []⟩]
theorem id10r_ren : seen [] 0 idKT idKL 8 id10T (mkG id10L 8) = some (id10rE, id10rR) := by kernel_rfl
def idkb : Asm := []
def idkl : Asm := [((.cmp .lss .i64 (y 29) (y 5)), true),
  ((.cmp .lss .u64 (y 29) (y 5)), true),
  ((.cmp .eql .i64 (.sel .i64 7 0 (y 29)) (.lit 0)), true),
  ((.cmp .eql .i64 (.sel .i64 7 1 (y 29)) (.lit 0)), true)]
noncomputable def idkA : Asm := lapp idkb idkl
theorem idkA_eq : idkA = idkb ++ idkl := by kernel_rfl
noncomputable def idk1T : Tr AV := mkT [(5, p 0), (6, .int .i64 (y 2)), (7, .int .i64 (y 3)), (8, .slice 1 0 (y 5) (.room 2)), (9, .int .i64 (.bin .add .i64 (y 29) (.lit 1)))]
def idk1L : List (Nat × AO) := [(0, c [i6 1, i6 2, i6 1, p 2, p 3, .int .i32 (.lit 0), .int .u32 (.lit 0), .slice 4 0 (y 24) (.room 8)]), (1, .rows 7 [.i64, .i64] (y 5) []), (2, c [.iface 174 (.slice 5 0 (.lit 18) (.known 18)), .int .i64 (.bin .add .i64 (y 23) (.lit 5))]), (3, c [.slice 6 0 (.lit 1) (.known 1)]), (4, .rows 6 [.i64, .i64, .i64, .i64, .i64, .i64, .i64, .i64] (y 24) []), (5, c [u6 0, .int .u64 (.var .u64 22), .int .u64 (.var .u64 20), u6 134217721, u6 0, u6 0, u6 0, u6 0, u6 1, u6 0, u6 0, .int .u64 (.var .u64 21), u6 0, u6 0, u6 0, u6 0, u6 0, u6 0]), (6, c [.chan 7]), (7, .chan 1 [])]
theorem idk1k : stepOK idkA (stepChk (ev tab idkA 1000000) idB 3 .normal idKT idKL 8 [] 0 idk1T idk1L 8) = true := by kernel_rfl
theorem idk_run {v : Nat → Nat} {arr : Nat → Nat → Nat → Nat} (ha : AsmV idkA v arr) (hb : BndA arr) : Rounds Tryz.prog idB 3 0 ⟨idKT, idKL, 8, idkA, v, arr⟩ ⟨idk1T, idk1L, 8, idkA, v, arr⟩ := by
  have h1 := Leads.same (fn := 3) (snd idkA) idk1k ha hb
  exact Rounds.one h1
def idkrE : Eqs := [((y 24), (y 24)), ((.bin .add .i64 (y 23) (.lit 5)), (.bin .add .i64 (y 23) (.lit 5))), ((.var .u64 22), (.var .u64 22)), ((.var .u64 20), (.var .u64 20)), ((.var .u64 21), (.var .u64 21)), ((y 3), (y 3)), ((y 29), (.bin .add .i64 (y 29) (.lit 1))), ((y 5), (y 5)), ((y 2), (y 2))]
def idkrR : List RowEq := [⟨7, [.i64, .i64], (y 5), 7, (y 5), []⟩, ⟨6, [.i64, .i64, .i64, .i64, .i64, .i64, .i64, .i64], (y 24), 6, (y 24), []⟩]
theorem idkr_ren : seen [] 0 idKT idKL 8 idk1T (mkG idk1L 8) = some (idkrE, idkrR) := by kernel_rfl
def idxb : Asm := []
def idxl : Asm := [((.cmp .lss .i64 (y 29) (y 5)), false)]
noncomputable def idxA : Asm := lapp idxb idxl
theorem idxA_eq : idxA = idxb ++ idxl := by kernel_rfl
noncomputable def idx1T : Tr AV := mkT [(5, p 0), (6, .int .i64 (y 2)), (7, .int .i64 (y 3)), (8, .slice 1 0 (y 5) (.room 2))]
def idx1L : List (Nat × AO) := [(0, c [i6 1, i6 2, i6 1, p 2, p 3, .int .i32 (.lit 0), .int .u32 (.lit 0), .slice 4 0 (y 24) (.room 8)]), (1, .rows 7 [.i64, .i64] (y 5) []), (2, c [.iface 174 (.slice 5 0 (.lit 18) (.known 18)), .int .i64 (.bin .add .i64 (y 23) (.lit 5))]), (3, c [.slice 6 0 (.lit 1) (.known 1)]), (4, .rows 6 [.i64, .i64, .i64, .i64, .i64, .i64, .i64, .i64] (y 24) []), (5, c [u6 0, .int .u64 (.var .u64 22), .int .u64 (.var .u64 20), u6 134217721, u6 0, u6 0, u6 0, u6 0, u6 1, u6 0, u6 0, .int .u64 (.var .u64 21), u6 0, u6 0, u6 0, u6 0, u6 0, u6 0]), (6, c [.chan 7]), (7, .chan 1 [])]
theorem idx1k : stepOK idxA (stepChk (ev tab idxA 1000000) idB 3 (.exit 0) idKT idKL 8 [] 0 idx1T idx1L 8) = true := by kernel_rfl
theorem idx_out {v : Nat → Nat} {arr : Nat → Nat → Nat → Nat} (ha : AsmV idxA v arr) (hb : BndA arr) : Leads Tryz.prog idB 3 (.exit 0) 0 ⟨idKT, idKL, 8, idxA, v, arr⟩ ⟨idx1T, idx1L, 8, idxA, v, arr⟩ := by
  have h1 := Leads.same (fn := 3) (snd idxA) idx1k ha hb
  exact h1
def idc11 : XCode := .region [.op q50 (.mv (.tmp q5)), .op q51 (.callF 10 [(.tmp q50), (.con (i6 0))]), .op q10 (.new [i6 0, i6 0, .slice0]), .st (.store 3 (.tmp q10) (.tmp q51))]
def idc12 : XCode := .region [.op q52 (.mv (.tmp q8)), .op q53 (.len 3 (.tmp q52)), .op q54 (.mv (.tmp q6)), .op q55 (.mv (.tmp q7)), .op q56 (.bin 0 .add (.tmp q54) (.tmp q55)), .op q57 (.bin 0 .eql (.tmp q53) (.tmp q56)), .op q58 (.mv (.tmp q57)), .gop q58 true q59 (.fieldAddr 1 (.tmp q10)), .gop q58 true q60 (.load none (.tmp q59)), .gop q58 true q61 (.mv (.tmp q6)), .gop q58 true q62 (.mv (.tmp q7)), .gop q58 true q63 (.bin 0 .sub (.tmp q61) (.tmp q62)), .gop q58 true q64 (.bin 0 .eql (.tmp q60) (.tmp q63)), .op q65 (.pick (.tmp q58) (.tmp q64) (.con (.bool (.lit false)))), .op q66 (.mv (.tmp q65)), .gop q66 true q67 (.fieldAddr 0 (.tmp q10)), .gop q66 true q68 (.load none (.tmp q67)), .gop q66 true q69 (.bin 0 .eql (.tmp q68) (.con (i6 0))), .gop q66 true q70 (.mv (.tmp q6)), .gop q66 true q71 (.mv (.tmp q7)), .gop q66 true q72 (.bin 0 .gtr (.tmp q70) (.tmp q71)), .gop q66 true q73 (.bin 1 .eql (.tmp q69) (.tmp q72)), .op q74 (.pick (.tmp q66) (.tmp q73) (.con (.bool (.lit false)))), .op q4 (.mv (.tmp q74))]
def ieAb : Asm := [((.cmp .eql .i64 (.conv .u64 .i64 (.bin .shr .u64 (.bin .and .u64 (.var .u64 20) (.lit 7)) (.lit 0))) (.lit 4)), false),
  ((.cmp .eql .i64 (.conv .u64 .i64 (.bin .shr .u64 (.bin .and .u64 (.var .u64 20) (.lit 7)) (.lit 0))) (.lit 2)), false),
  ((.cmp .eql .i64 (.conv .u64 .i64 (.bin .shr .u64 (.bin .and .u64 (.var .u64 20) (.lit 7)) (.lit 0))) (.lit 3)), true),
  ((.cmp .geq .i64 (.conv .u64 .i64 (.bin .shr .u64 (.bin .and .u64 (.var .u64 20) (.lit 7)) (.lit 0))) (.lit 0)), true),
  ((.cmp .leq .i64 (.conv .u64 .i64 (.bin .shr .u64 (.bin .and .u64 (.var .u64 20) (.lit 7)) (.lit 0))) (.lit 4)), true),
  ((.cmp .geq .i64 (.conv .u64 .i64 (.bin .shr .u64 (.bin .and .u64 (.var .u64 20) (.lit 134217720)) (.lit 3))) (.lit 0)), true),
  ((.cmp .leq .i64 (.conv .u64 .i64 (.bin .shr .u64 (.bin .and .u64 (.var .u64 20) (.lit 134217720)) (.lit 3))) (.lit 16777215)), true),
  ((.cmp .geq .i64 (.conv .u64 .i64 (.bin .shr .u64 (.bin .and .u64 (.var .u64 20) (.lit 4397912293376)) (.lit 27))) (.lit 0)), true),
  ((.cmp .leq .i64 (.conv .u64 .i64 (.bin .shr .u64 (.bin .and .u64 (.var .u64 20) (.lit 4397912293376)) (.lit 27))) (.lit 32765)), true),
  ((.cmp .geq .i64 (.conv .u64 .i64 (.bin .shr .u64 (.bin .and .u64 (.var .u64 20) (.lit 1121501860331520)) (.lit 42))) (.lit 1)), true),
  ((.cmp .leq .i64 (.conv .u64 .i64 (.bin .shr .u64 (.bin .and .u64 (.var .u64 20) (.lit 1121501860331520)) (.lit 42))) (.lit 255)), true),
  ((.cmp .gtr .u64 (.conv .i64 .u64 (.conv .u64 .i64 (.bin .shr .u64 (.bin .and .u64 (.var .u64 20) (.lit 7)) (.lit 0)))) (.lit 7)), false),
  ((.cmp .gtr .u64 (.conv .i64 .u64 (.conv .u64 .i64 (.bin .shr .u64 (.bin .and .u64 (.var .u64 20) (.lit 134217720)) (.lit 3)))) (.lit 16777215)), false),
  ((.cmp .gtr .u64 (.conv .i64 .u64 (.conv .u64 .i64 (.bin .shr .u64 (.bin .and .u64 (.var .u64 20) (.lit 4397912293376)) (.lit 27)))) (.lit 32767)), false),
  ((.cmp .gtr .u64 (.conv .i64 .u64 (.conv .u64 .i64 (.bin .shr .u64 (.bin .and .u64 (.var .u64 20) (.lit 1121501860331520)) (.lit 42)))) (.lit 255)), false),
  ((.cmp .neq .u64 (.bin .or .u64 (.bin .andNot .u64 (.bin .or .u64 (.bin .andNot .u64 (.bin .or .u64 (.bin .andNot .u64 (.bin .or .u64 (.lit 0) (.bin .shl .u64 (.conv .i64 .u64 (.conv .u64 .i64 (.bin .shr .u64 (.bin .and .u64 (.var .u64 20) (.lit 7)) (.lit 0)))) (.lit 0))) (.lit 134217720)) (.bin .shl .u64 (.conv .i64 .u64 (.conv .u64 .i64 (.bin .shr .u64 (.bin .and .u64 (.var .u64 20) (.lit 134217720)) (.lit 3)))) (.lit 3))) (.lit 4397912293376)) (.bin .shl .u64 (.conv .i64 .u64 (.conv .u64 .i64 (.bin .shr .u64 (.bin .and .u64 (.var .u64 20) (.lit 4397912293376)) (.lit 27)))) (.lit 27))) (.lit 1121501860331520)) (.bin .shl .u64 (.conv .i64 .u64 (.conv .u64 .i64 (.bin .shr .u64 (.bin .and .u64 (.var .u64 20) (.lit 1121501860331520)) (.lit 42)))) (.lit 42))) (.var .u64 20)), false),
  ((.cmp .eql .i64 (.conv .u64 .i64 (.bin .shr .u64 (.bin .and .u64 (.var .u64 20) (.lit 1121501860331520)) (.lit 42))) (.lit 0)), false),
  ((.cmp .eql .i64 (.conv .u64 .i64 (.bin .shr .u64 (.bin .and .u64 (.var .u64 20) (.lit 4397912293376)) (.lit 27))) (.lit 0)), true),
  ((.cmp .eql .i64 (.conv .u64 .i64 (.bin .shr .u64 (.bin .and .u64 (.var .u64 20) (.lit 1121501860331520)) (.lit 42))) (y 31)), true),
  ((.cmp .geq .i64 (y 31) (.lit 1)), true),
  ((.cmp .leq .i64 (y 31) (.lit 255)), true),
  ((.cmp .gtr .u64 (.conv .i64 .u64 (y 31)) (.lit 255)), false),
  ((.cmp .neq .u64 (.bin .or .u64 (.bin .andNot .u64 (.bin .or .u64 (.bin .andNot .u64 (.bin .or .u64 (.lit 3) (.bin .shl .u64 (.conv .i64 .u64 (.conv .u64 .i64 (.bin .shr .u64 (.bin .and .u64 (.var .u64 20) (.lit 134217720)) (.lit 3)))) (.lit 3))) (.lit 4397912293376)) (.lit 0)) (.lit 1121501860331520)) (.bin .shl .u64 (.conv .i64 .u64 (y 31)) (.lit 42))) (.var .u64 20)), false),
  ((.cmp .eql .i64 (y 31) (.lit 0)), false)]
def ieAl : Asm := [((.cmp .eql .i64 (y 5) (.bin .add .i64 (y 2) (y 3))), true),
  ((.cmp .eql .i64 (y 31) (.bin .sub .i64 (y 2) (y 3))), true),
  ((.cmp .gtr .i64 (y 2) (y 3)), true)]
noncomputable def ieAA : Asm := lapp ieAb ieAl
theorem ieAA_eq : ieAA = ieAb ++ ieAl := by kernel_rfl
noncomputable def ieA0T : Tr AV := mkT [(6, .int .i64 (y 2)), (7, .int .i64 (y 3)), (8, .slice 0 0 (y 5) (.room 2)), (10, p 1)]
def ieA0L : List (Nat × AO) := [(0, .rows 7 [.i64, .i64] (y 5) []), (1, c [i6 0, .int .i64 (y 31), .slice0])]
theorem ieA0k : stepOK ieAA (stepChk (ev tab ieAA 1000000) idc11 3 .normal idx1T idx1L 8 [(1, 184), (0, 1)] 0 ieA0T ieA0L 2) = true := by kernel_rfl
theorem ieA0_lead {v : Nat → Nat} {arr : Nat → Nat → Nat → Nat} (ha : AsmV ieAA v arr) (hb : BndA arr) : Leads Tryz.prog idc11 3 .normal 0 ⟨idx1T, idx1L, 8, ieAA, v, arr⟩ ⟨ieA0T, ieA0L, 2, ieAA, v, arr⟩ := Leads.same (snd ieAA) ieA0k ha hb
noncomputable def ieA1T : Tr AV := mkT [(4, .bool (.lit true))]
def ieA1L : List (Nat × AO) := []
theorem ieA1k : stepOK ieAA (stepChk (ev tab ieAA 1000000) idc12 3 .normal ieA0T ieA0L 2 [] 0 ieA1T ieA1L 0) = true := by kernel_rfl
theorem ieA1_lead {v : Nat → Nat} {arr : Nat → Nat → Nat → Nat} (ha : AsmV ieAA v arr) (hb : BndA arr) : Leads Tryz.prog idc12 3 .normal 0 ⟨ieA0T, ieA0L, 2, ieAA, v, arr⟩ ⟨ieA1T, ieA1L, 0, ieAA, v, arr⟩ := Leads.same (snd ieAA) ieA1k ha hb
noncomputable def ieA2T : Tr AV := mkT [(4, .bool (.lit true))]
def ieA2L : List (Nat × AO) := []
theorem ieA2k : stepOK ieAA (stepChk (ev tab ieAA 1000000) .ret 3 .ret ieA1T ieA1L 0 [] 0 ieA2T ieA2L 0) = true := by kernel_rfl
theorem ieA2_lead {v : Nat → Nat} {arr : Nat → Nat → Nat → Nat} (ha : AsmV ieAA v arr) (hb : BndA arr) : Leads Tryz.prog .ret 3 .ret 0 ⟨ieA1T, ieA1L, 0, ieAA, v, arr⟩ ⟨ieA2T, ieA2L, 0, ieAA, v, arr⟩ := Leads.same (snd ieAA) ieA2k ha hb
def ieBb : Asm := [((.cmp .eql .i64 (.conv .u64 .i64 (.bin .shr .u64 (.bin .and .u64 (.var .u64 20) (.lit 7)) (.lit 0))) (.lit 4)), false),
  ((.cmp .eql .i64 (.conv .u64 .i64 (.bin .shr .u64 (.bin .and .u64 (.var .u64 20) (.lit 7)) (.lit 0))) (.lit 2)), false),
  ((.cmp .eql .i64 (.conv .u64 .i64 (.bin .shr .u64 (.bin .and .u64 (.var .u64 20) (.lit 7)) (.lit 0))) (.lit 3)), false),
  ((.cmp .geq .i64 (.conv .u64 .i64 (.bin .shr .u64 (.bin .and .u64 (.var .u64 20) (.lit 7)) (.lit 0))) (.lit 0)), true),
  ((.cmp .leq .i64 (.conv .u64 .i64 (.bin .shr .u64 (.bin .and .u64 (.var .u64 20) (.lit 7)) (.lit 0))) (.lit 4)), true),
  ((.cmp .geq .i64 (.conv .u64 .i64 (.bin .shr .u64 (.bin .and .u64 (.var .u64 20) (.lit 134217720)) (.lit 3))) (.lit 0)), true),
  ((.cmp .leq .i64 (.conv .u64 .i64 (.bin .shr .u64 (.bin .and .u64 (.var .u64 20) (.lit 134217720)) (.lit 3))) (.lit 16777215)), true),
  ((.cmp .geq .i64 (.conv .u64 .i64 (.bin .shr .u64 (.bin .and .u64 (.var .u64 20) (.lit 4397912293376)) (.lit 27))) (.lit 0)), true),
  ((.cmp .leq .i64 (.conv .u64 .i64 (.bin .shr .u64 (.bin .and .u64 (.var .u64 20) (.lit 4397912293376)) (.lit 27))) (.lit 0)), true),
  ((.cmp .geq .i64 (.conv .u64 .i64 (.bin .shr .u64 (.bin .and .u64 (.var .u64 20) (.lit 1121501860331520)) (.lit 42))) (.lit 0)), true),
  ((.cmp .leq .i64 (.conv .u64 .i64 (.bin .shr .u64 (.bin .and .u64 (.var .u64 20) (.lit 1121501860331520)) (.lit 42))) (.lit 0)), true),
  ((.cmp .gtr .u64 (.conv .i64 .u64 (.conv .u64 .i64 (.bin .shr .u64 (.bin .and .u64 (.var .u64 20) (.lit 7)) (.lit 0)))) (.lit 7)), false),
  ((.cmp .gtr .u64 (.conv .i64 .u64 (.conv .u64 .i64 (.bin .shr .u64 (.bin .and .u64 (.var .u64 20) (.lit 134217720)) (.lit 3)))) (.lit 16777215)), false),
  ((.cmp .gtr .u64 (.conv .i64 .u64 (.conv .u64 .i64 (.bin .shr .u64 (.bin .and .u64 (.var .u64 20) (.lit 4397912293376)) (.lit 27)))) (.lit 32767)), false),
  ((.cmp .gtr .u64 (.conv .i64 .u64 (.conv .u64 .i64 (.bin .shr .u64 (.bin .and .u64 (.var .u64 20) (.lit 1121501860331520)) (.lit 42)))) (.lit 255)), false),
  ((.cmp .neq .u64 (.bin .or .u64 (.bin .andNot .u64 (.bin .or .u64 (.bin .andNot .u64 (.bin .or .u64 (.bin .andNot .u64 (.bin .or .u64 (.lit 0) (.bin .shl .u64 (.conv .i64 .u64 (.conv .u64 .i64 (.bin .shr .u64 (.bin .and .u64 (.var .u64 20) (.lit 7)) (.lit 0)))) (.lit 0))) (.lit 134217720)) (.bin .shl .u64 (.conv .i64 .u64 (.conv .u64 .i64 (.bin .shr .u64 (.bin .and .u64 (.var .u64 20) (.lit 134217720)) (.lit 3)))) (.lit 3))) (.lit 4397912293376)) (.bin .shl .u64 (.conv .i64 .u64 (.conv .u64 .i64 (.bin .shr .u64 (.bin .and .u64 (.var .u64 20) (.lit 4397912293376)) (.lit 27)))) (.lit 27))) (.lit 1121501860331520)) (.bin .shl .u64 (.conv .i64 .u64 (.conv .u64 .i64 (.bin .shr .u64 (.bin .and .u64 (.var .u64 20) (.lit 1121501860331520)) (.lit 42)))) (.lit 42))) (.var .u64 20)), false),
  ((.cmp .eql .i64 (.conv .u64 .i64 (.bin .shr .u64 (.bin .and .u64 (.var .u64 20) (.lit 7)) (.lit 0))) (.lit 1)), true),
  ((.cmp .neq .u64 (.bin .or .u64 (.bin .andNot .u64 (.bin .or .u64 (.bin .andNot .u64 (.bin .or .u64 (.lit 1) (.bin .shl .u64 (.conv .i64 .u64 (.conv .u64 .i64 (.bin .shr .u64 (.bin .and .u64 (.var .u64 20) (.lit 134217720)) (.lit 3)))) (.lit 3))) (.lit 4397912293376)) (.bin .shl .u64 (.conv .i64 .u64 (.conv .u64 .i64 (.bin .shr .u64 (.bin .and .u64 (.var .u64 20) (.lit 4397912293376)) (.lit 27)))) (.lit 27))) (.lit 1121501860331520)) (.bin .shl .u64 (.conv .i64 .u64 (.conv .u64 .i64 (.bin .shr .u64 (.bin .and .u64 (.var .u64 20) (.lit 1121501860331520)) (.lit 42)))) (.lit 42))) (.var .u64 20)), false)]
def ieBl : Asm := [((.cmp .eql .i64 (y 5) (.bin .add .i64 (y 2) (y 3))), true),
  ((.cmp .eql .i64 (.lit 0) (.bin .sub .i64 (y 2) (y 3))), true),
  ((.cmp .gtr .i64 (y 2) (y 3)), false)]
noncomputable def ieBA : Asm := lapp ieBb ieBl
theorem ieBA_eq : ieBA = ieBb ++ ieBl := by kernel_rfl
noncomputable def ieB0T : Tr AV := mkT [(6, .int .i64 (y 2)), (7, .int .i64 (y 3)), (8, .slice 0 0 (y 5) (.room 2)), (10, p 1)]
def ieB0L : List (Nat × AO) := [(0, .rows 7 [.i64, .i64] (y 5) []), (1, c [i6 18446744073709551615, i6 0, .slice0])]
theorem ieB0k : stepOK ieBA (stepChk (ev tab ieBA 1000000) idc11 3 .normal idx1T idx1L 8 [(1, 178), (0, 1)] 0 ieB0T ieB0L 2) = true := by kernel_rfl
theorem ieB0_lead {v : Nat → Nat} {arr : Nat → Nat → Nat → Nat} (ha : AsmV ieBA v arr) (hb : BndA arr) : Leads Tryz.prog idc11 3 .normal 0 ⟨idx1T, idx1L, 8, ieBA, v, arr⟩ ⟨ieB0T, ieB0L, 2, ieBA, v, arr⟩ := Leads.same (snd ieBA) ieB0k ha hb
noncomputable def ieB1T : Tr AV := mkT [(4, .bool (.lit true))]
def ieB1L : List (Nat × AO) := []
theorem ieB1k : stepOK ieBA (stepChk (ev tab ieBA 1000000) idc12 3 .normal ieB0T ieB0L 2 [] 0 ieB1T ieB1L 0) = true := by kernel_rfl
theorem ieB1_lead {v : Nat → Nat} {arr : Nat → Nat → Nat → Nat} (ha : AsmV ieBA v arr) (hb : BndA arr) : Leads Tryz.prog idc12 3 .normal 0 ⟨ieB0T, ieB0L, 2, ieBA, v, arr⟩ ⟨ieB1T, ieB1L, 0, ieBA, v, arr⟩ := Leads.same (snd ieBA) ieB1k ha hb
noncomputable def ieB2T : Tr AV := mkT [(4, .bool (.lit true))]
def ieB2L : List (Nat × AO) := []
theorem ieB2k : stepOK ieBA (stepChk (ev tab ieBA 1000000) .ret 3 .ret ieB1T ieB1L 0 [] 0 ieB2T ieB2L 0) = true := by kernel_rfl
theorem ieB2_lead {v : Nat → Nat} {arr : Nat → Nat → Nat → Nat} (ha : AsmV ieBA v arr) (hb : BndA arr) : Leads Tryz.prog .ret 3 .ret 0 ⟨ieB1T, ieB1L, 0, ieBA, v, arr⟩ ⟨ieB2T, ieB2L, 0, ieBA, v, arr⟩ := Leads.same (snd ieBA) ieB2k ha hb
def ieCb : Asm := [((.cmp .eql .i64 (.conv .u64 .i64 (.bin .shr .u64 (.bin .and .u64 (.var .u64 20) (.lit 7)) (.lit 0))) (.lit 4)), true),
  ((.cmp .eql .i64 (.conv .u64 .i64 (.bin .shr .u64 (.bin .and .u64 (.var .u64 20) (.lit 7)) (.lit 0))) (.lit 2)), false),
  ((.cmp .eql .i64 (.conv .u64 .i64 (.bin .shr .u64 (.bin .and .u64 (.var .u64 20) (.lit 7)) (.lit 0))) (.lit 3)), false),
  ((.cmp .geq .i64 (.conv .u64 .i64 (.bin .shr .u64 (.bin .and .u64 (.var .u64 20) (.lit 7)) (.lit 0))) (.lit 0)), true),
  ((.cmp .leq .i64 (.conv .u64 .i64 (.bin .shr .u64 (.bin .and .u64 (.var .u64 20) (.lit 7)) (.lit 0))) (.lit 4)), true),
  ((.cmp .geq .i64 (.conv .u64 .i64 (.bin .shr .u64 (.bin .and .u64 (.var .u64 20) (.lit 134217720)) (.lit 3))) (.lit 0)), true),
  ((.cmp .leq .i64 (.conv .u64 .i64 (.bin .shr .u64 (.bin .and .u64 (.var .u64 20) (.lit 134217720)) (.lit 3))) (.lit 16777215)), true),
  ((.cmp .geq .i64 (.conv .u64 .i64 (.bin .shr .u64 (.bin .and .u64 (.var .u64 20) (.lit 549621596160)) (.lit 27))) (.lit 0)), true),
  ((.cmp .leq .i64 (.conv .u64 .i64 (.bin .shr .u64 (.bin .and .u64 (.var .u64 20) (.lit 549621596160)) (.lit 27))) (.lit 4095)), true),
  ((.cmp .geq .i64 (.conv .u64 .i64 (.bin .shr .u64 (.bin .and .u64 (.var .u64 20) (.lit 2251250057871360)) (.lit 39))) (.lit 0)), true),
  ((.cmp .leq .i64 (.conv .u64 .i64 (.bin .shr .u64 (.bin .and .u64 (.var .u64 20) (.lit 2251250057871360)) (.lit 39))) (.lit 4095)), true),
  ((.cmp .gtr .u64 (.conv .i64 .u64 (.conv .u64 .i64 (.bin .shr .u64 (.bin .and .u64 (.var .u64 20) (.lit 7)) (.lit 0)))) (.lit 7)), false),
  ((.cmp .gtr .u64 (.conv .i64 .u64 (.conv .u64 .i64 (.bin .shr .u64 (.bin .and .u64 (.var .u64 20) (.lit 134217720)) (.lit 3)))) (.lit 16777215)), false),
  ((.cmp .gtr .u64 (.conv .i64 .u64 (.conv .u64 .i64 (.bin .shr .u64 (.bin .and .u64 (.var .u64 20) (.lit 549621596160)) (.lit 27)))) (.lit 4095)), false),
  ((.cmp .gtr .u64 (.conv .i64 .u64 (.conv .u64 .i64 (.bin .shr .u64 (.bin .and .u64 (.var .u64 20) (.lit 2251250057871360)) (.lit 39)))) (.lit 4095)), false),
  ((.cmp .neq .u64 (.bin .or .u64 (.bin .andNot .u64 (.bin .or .u64 (.bin .andNot .u64 (.bin .or .u64 (.bin .andNot .u64 (.bin .or .u64 (.lit 0) (.bin .shl .u64 (.conv .i64 .u64 (.conv .u64 .i64 (.bin .shr .u64 (.bin .and .u64 (.var .u64 20) (.lit 7)) (.lit 0)))) (.lit 0))) (.lit 134217720)) (.bin .shl .u64 (.conv .i64 .u64 (.conv .u64 .i64 (.bin .shr .u64 (.bin .and .u64 (.var .u64 20) (.lit 134217720)) (.lit 3)))) (.lit 3))) (.lit 549621596160)) (.bin .shl .u64 (.conv .i64 .u64 (.conv .u64 .i64 (.bin .shr .u64 (.bin .and .u64 (.var .u64 20) (.lit 549621596160)) (.lit 27)))) (.lit 27))) (.lit 2251250057871360)) (.bin .shl .u64 (.conv .i64 .u64 (.conv .u64 .i64 (.bin .shr .u64 (.bin .and .u64 (.var .u64 20) (.lit 2251250057871360)) (.lit 39)))) (.lit 39))) (.var .u64 20)), false),
  ((.cmp .geq .i64 (.conv .u64 .i64 (.bin .shr .u64 (.bin .and .u64 (.var .u64 20) (.lit 549621596160)) (.lit 27))) (.lit 1)), false),
  ((.cmp .eql .i64 (.bin .add .i64 (.bin .mul .i64 (.lit 8) (.conv .u64 .i64 (.bin .shr .u64 (.bin .and .u64 (.var .u64 20) (.lit 549621596160)) (.lit 27)))) (.lit 11)) (.lit 11)), true),
  ((.cmp .eql .i64 (.bin .add .i64 (.conv .u64 .i64 (.bin .shr .u64 (.var .u64 21) (.lit 32))) (.lit 18446744073709551615)) (.lit 0)), true),
  ((.cmp .eql .i64 (.conv .u64 .i64 (.bin .and .u64 (.var .u64 21) (.lit 4294967295))) (y 31)), true),
  ((.cmp .neq .u64 (.bin .or .u64 (.bin .andNot .u64 (.bin .or .u64 (.bin .andNot .u64 (.bin .or .u64 (.lit 4) (.bin .shl .u64 (.conv .i64 .u64 (.conv .u64 .i64 (.bin .shr .u64 (.bin .and .u64 (.var .u64 20) (.lit 134217720)) (.lit 3)))) (.lit 3))) (.lit 549621596160)) (.bin .shl .u64 (.conv .i64 .u64 (.conv .u64 .i64 (.bin .shr .u64 (.bin .and .u64 (.var .u64 20) (.lit 549621596160)) (.lit 27)))) (.lit 27))) (.lit 2251250057871360)) (.bin .shl .u64 (.conv .i64 .u64 (.conv .u64 .i64 (.bin .shr .u64 (.bin .and .u64 (.var .u64 20) (.lit 2251250057871360)) (.lit 39)))) (.lit 39))) (.var .u64 20)), false)]
def ieCl : Asm := [((.cmp .eql .i64 (y 5) (.bin .add .i64 (y 2) (y 3))), true),
  ((.cmp .eql .i64 (y 31) (.bin .sub .i64 (y 2) (y 3))), true),
  ((.cmp .gtr .i64 (y 2) (y 3)), true)]
noncomputable def ieCA : Asm := lapp ieCb ieCl
theorem ieCA_eq : ieCA = ieCb ++ ieCl := by kernel_rfl
noncomputable def ieC0T : Tr AV := mkT [(6, .int .i64 (y 2)), (7, .int .i64 (y 3)), (8, .slice 0 0 (y 5) (.room 2)), (10, p 1)]
def ieC0L : List (Nat × AO) := [(0, .rows 7 [.i64, .i64] (y 5) []), (1, c [i6 0, .int .i64 (y 31), .slice0])]
theorem ieC0k : stepOK ieCA (stepChk (ev tab ieCA 1000000) idc11 3 .normal idx1T idx1L 8 [(1, 194), (0, 1)] 0 ieC0T ieC0L 2) = true := by kernel_rfl
theorem ieC0_lead {v : Nat → Nat} {arr : Nat → Nat → Nat → Nat} (ha : AsmV ieCA v arr) (hb : BndA arr) : Leads Tryz.prog idc11 3 .normal 0 ⟨idx1T, idx1L, 8, ieCA, v, arr⟩ ⟨ieC0T, ieC0L, 2, ieCA, v, arr⟩ := Leads.same (snd ieCA) ieC0k ha hb
noncomputable def ieC1T : Tr AV := mkT [(4, .bool (.lit true))]
def ieC1L : List (Nat × AO) := []
theorem ieC1k : stepOK ieCA (stepChk (ev tab ieCA 1000000) idc12 3 .normal ieC0T ieC0L 2 [] 0 ieC1T ieC1L 0) = true := by kernel_rfl
theorem ieC1_lead {v : Nat → Nat} {arr : Nat → Nat → Nat → Nat} (ha : AsmV ieCA v arr) (hb : BndA arr) : Leads Tryz.prog idc12 3 .normal 0 ⟨ieC0T, ieC0L, 2, ieCA, v, arr⟩ ⟨ieC1T, ieC1L, 0, ieCA, v, arr⟩ := Leads.same (snd ieCA) ieC1k ha hb
noncomputable def ieC2T : Tr AV := mkT [(4, .bool (.lit true))]
def ieC2L : List (Nat × AO) := []
theorem ieC2k : stepOK ieCA (stepChk (ev tab ieCA 1000000) .ret 3 .ret ieC1T ieC1L 0 [] 0 ieC2T ieC2L 0) = true := by kernel_rfl
theorem ieC2_lead {v : Nat → Nat} {arr : Nat → Nat → Nat → Nat} (ha : AsmV ieCA v arr) (hb : BndA arr) : Leads Tryz.prog .ret 3 .ret 0 ⟨ieC1T, ieC1L, 0, ieCA, v, arr⟩ ⟨ieC2T, ieC2L, 0, ieCA, v, arr⟩ := Leads.same (snd ieCA) ieC2k ha hb
def ieDb : Asm := [((.cmp .eql .i64 (.conv .u64 .i64 (.bin .shr .u64 (.bin .and .u64 (.var .u64 20) (.lit 7)) (.lit 0))) (.lit 4)), true),
  ((.cmp .eql .i64 (.conv .u64 .i64 (.bin .shr .u64 (.bin .and .u64 (.var .u64 20) (.lit 7)) (.lit 0))) (.lit 2)), false),
  ((.cmp .eql .i64 (.conv .u64 .i64 (.bin .shr .u64 (.bin .and .u64 (.var .u64 20) (.lit 7)) (.lit 0))) (.lit 3)), false),
  ((.cmp .geq .i64 (.conv .u64 .i64 (.bin .shr .u64 (.bin .and .u64 (.var .u64 20) (.lit 7)) (.lit 0))) (.lit 0)), true),
  ((.cmp .leq .i64 (.conv .u64 .i64 (.bin .shr .u64 (.bin .and .u64 (.var .u64 20) (.lit 7)) (.lit 0))) (.lit 4)), true),
  ((.cmp .geq .i64 (.conv .u64 .i64 (.bin .shr .u64 (.bin .and .u64 (.var .u64 20) (.lit 134217720)) (.lit 3))) (.lit 0)), true),
  ((.cmp .leq .i64 (.conv .u64 .i64 (.bin .shr .u64 (.bin .and .u64 (.var .u64 20) (.lit 134217720)) (.lit 3))) (.lit 16777215)), true),
  ((.cmp .geq .i64 (.conv .u64 .i64 (.bin .shr .u64 (.bin .and .u64 (.var .u64 20) (.lit 549621596160)) (.lit 27))) (.lit 0)), true),
  ((.cmp .leq .i64 (.conv .u64 .i64 (.bin .shr .u64 (.bin .and .u64 (.var .u64 20) (.lit 549621596160)) (.lit 27))) (.lit 4095)), true),
  ((.cmp .geq .i64 (.conv .u64 .i64 (.bin .shr .u64 (.bin .and .u64 (.var .u64 20) (.lit 2251250057871360)) (.lit 39))) (.lit 0)), true),
  ((.cmp .leq .i64 (.conv .u64 .i64 (.bin .shr .u64 (.bin .and .u64 (.var .u64 20) (.lit 2251250057871360)) (.lit 39))) (.lit 4095)), true),
  ((.cmp .gtr .u64 (.conv .i64 .u64 (.conv .u64 .i64 (.bin .shr .u64 (.bin .and .u64 (.var .u64 20) (.lit 7)) (.lit 0)))) (.lit 7)), false),
  ((.cmp .gtr .u64 (.conv .i64 .u64 (.conv .u64 .i64 (.bin .shr .u64 (.bin .and .u64 (.var .u64 20) (.lit 134217720)) (.lit 3)))) (.lit 16777215)), false),
  ((.cmp .gtr .u64 (.conv .i64 .u64 (.conv .u64 .i64 (.bin .shr .u64 (.bin .and .u64 (.var .u64 20) (.lit 549621596160)) (.lit 27)))) (.lit 4095)), false),
  ((.cmp .gtr .u64 (.conv .i64 .u64 (.conv .u64 .i64 (.bin .shr .u64 (.bin .and .u64 (.var .u64 20) (.lit 2251250057871360)) (.lit 39)))) (.lit 4095)), false),
  ((.cmp .neq .u64 (.bin .or .u64 (.bin .andNot .u64 (.bin .or .u64 (.bin .andNot .u64 (.bin .or .u64 (.bin .andNot .u64 (.bin .or .u64 (.lit 0) (.bin .shl .u64 (.conv .i64 .u64 (.conv .u64 .i64 (.bin .shr .u64 (.bin .and .u64 (.var .u64 20) (.lit 7)) (.lit 0)))) (.lit 0))) (.lit 134217720)) (.bin .shl .u64 (.conv .i64 .u64 (.conv .u64 .i64 (.bin .shr .u64 (.bin .and .u64 (.var .u64 20) (.lit 134217720)) (.lit 3)))) (.lit 3))) (.lit 549621596160)) (.bin .shl .u64 (.conv .i64 .u64 (.conv .u64 .i64 (.bin .shr .u64 (.bin .and .u64 (.var .u64 20) (.lit 549621596160)) (.lit 27)))) (.lit 27))) (.lit 2251250057871360)) (.bin .shl .u64 (.conv .i64 .u64 (.conv .u64 .i64 (.bin .shr .u64 (.bin .and .u64 (.var .u64 20) (.lit 2251250057871360)) (.lit 39)))) (.lit 39))) (.var .u64 20)), false),
  ((.cmp .geq .i64 (.conv .u64 .i64 (.bin .shr .u64 (.bin .and .u64 (.var .u64 20) (.lit 549621596160)) (.lit 27))) (.lit 1)), false),
  ((.cmp .eql .i64 (.bin .add .i64 (.bin .mul .i64 (.lit 8) (.conv .u64 .i64 (.bin .shr .u64 (.bin .and .u64 (.var .u64 20) (.lit 549621596160)) (.lit 27)))) (.lit 11)) (.lit 11)), true),
  ((.cmp .eql .i64 (.bin .add .i64 (.conv .u64 .i64 (.bin .shr .u64 (.var .u64 21) (.lit 32))) (.lit 18446744073709551615)) (.lit 18446744073709551615)), true),
  ((.cmp .eql .i64 (.conv .u64 .i64 (.bin .and .u64 (.var .u64 21) (.lit 4294967295))) (.lit 0)), true),
  ((.cmp .neq .u64 (.bin .or .u64 (.bin .andNot .u64 (.bin .or .u64 (.bin .andNot .u64 (.bin .or .u64 (.lit 4) (.bin .shl .u64 (.conv .i64 .u64 (.conv .u64 .i64 (.bin .shr .u64 (.bin .and .u64 (.var .u64 20) (.lit 134217720)) (.lit 3)))) (.lit 3))) (.lit 549621596160)) (.bin .shl .u64 (.conv .i64 .u64 (.conv .u64 .i64 (.bin .shr .u64 (.bin .and .u64 (.var .u64 20) (.lit 549621596160)) (.lit 27)))) (.lit 27))) (.lit 2251250057871360)) (.bin .shl .u64 (.conv .i64 .u64 (.conv .u64 .i64 (.bin .shr .u64 (.bin .and .u64 (.var .u64 20) (.lit 2251250057871360)) (.lit 39)))) (.lit 39))) (.var .u64 20)), false)]
def ieDl : Asm := [((.cmp .eql .i64 (y 5) (.bin .add .i64 (y 2) (y 3))), true),
  ((.cmp .eql .i64 (.lit 0) (.bin .sub .i64 (y 2) (y 3))), true),
  ((.cmp .gtr .i64 (y 2) (y 3)), false)]
noncomputable def ieDA : Asm := lapp ieDb ieDl
theorem ieDA_eq : ieDA = ieDb ++ ieDl := by kernel_rfl
noncomputable def ieD0T : Tr AV := mkT [(6, .int .i64 (y 2)), (7, .int .i64 (y 3)), (8, .slice 0 0 (y 5) (.room 2)), (10, p 1)]
def ieD0L : List (Nat × AO) := [(0, .rows 7 [.i64, .i64] (y 5) []), (1, c [i6 18446744073709551615, i6 0, .slice0])]
theorem ieD0k : stepOK ieDA (stepChk (ev tab ieDA 1000000) idc11 3 .normal idx1T idx1L 8 [(1, 194), (0, 1)] 0 ieD0T ieD0L 2) = true := by kernel_rfl
theorem ieD0_lead {v : Nat → Nat} {arr : Nat → Nat → Nat → Nat} (ha : AsmV ieDA v arr) (hb : BndA arr) : Leads Tryz.prog idc11 3 .normal 0 ⟨idx1T, idx1L, 8, ieDA, v, arr⟩ ⟨ieD0T, ieD0L, 2, ieDA, v, arr⟩ := Leads.same (snd ieDA) ieD0k ha hb
noncomputable def ieD1T : Tr AV := mkT [(4, .bool (.lit true))]
def ieD1L : List (Nat × AO) := []
theorem ieD1k : stepOK ieDA (stepChk (ev tab ieDA 1000000) idc12 3 .normal ieD0T ieD0L 2 [] 0 ieD1T ieD1L 0) = true := by kernel_rfl
theorem ieD1_lead {v : Nat → Nat} {arr : Nat → Nat → Nat → Nat} (ha : AsmV ieDA v arr) (hb : BndA arr) : Leads Tryz.prog idc12 3 .normal 0 ⟨ieD0T, ieD0L, 2, ieDA, v, arr⟩ ⟨ieD1T, ieD1L, 0, ieDA, v, arr⟩ := Leads.same (snd ieDA) ieD1k ha hb
noncomputable def ieD2T : Tr AV := mkT [(4, .bool (.lit true))]
def ieD2L : List (Nat × AO) := []
theorem ieD2k : stepOK ieDA (stepChk (ev tab ieDA 1000000) .ret 3 .ret ieD1T ieD1L 0 [] 0 ieD2T ieD2L 0) = true := by kernel_rfl
theorem ieD2_lead {v : Nat → Nat} {arr : Nat → Nat → Nat → Nat} (ha : AsmV ieDA v arr) (hb : BndA arr) : Leads Tryz.prog .ret 3 .ret 0 ⟨ieD1T, ieD1L, 0, ieDA, v, arr⟩ ⟨ieD2T, ieD2L, 0, ieDA, v, arr⟩ := Leads.same (snd ieDA) ieD2k ha hb
end Go.Sx
