/-
  The operations that make and turn nothing.
-/
import Derived.Test.YtjbigdomdhgdgaaGreatA1
import Derived.ChangeKeysEq
import Derived.Laws.Entries
set_option linter.unusedSimpArgs false
set_option linter.unusedVariables false
set_option linter.unusedSectionVars false
namespace Go.Sx
open Go

variable {P : Program} {R : Nat → Prop} {e : Env} {g : G} {W : World} {asm : Asm} {t : Tr AV} {a : Act} {nt : Nat}

/-- Where a frame stands. -/
structure Here (P : Program) (R : Nat → Prop) (e : Env) (g : G) (W : World) (asm : Asm) (t : Tr AV) (a : Act) (nt : Nat) : Prop where
  sim : Sim P R e g W
  tr : TR e t a.tmps
  nt : nt ≤ a.tmps.size
  asm : ∀ p ∈ asm, p.1.ev e = p.2

/-- A deferred call. -/
def DR (e : Env) : ADef → Deferred → Prop
  | .fn f as, D => ∃ xs, D = { target := .fn (.func f) #[], args := xs } ∧ VRs e as xs.toList
  | .coll r, D => ∃ c n, e.blk r = some (c, n) ∧ D = { target := .collected c, args := #[] }
theorem DR.le {e e' : Env} (h : e.Lw e') : ∀ {d : ADef} {D : Deferred}, DR e d D → DR e' d D
  | .fn _ _, _, ⟨xs, h1, h2⟩ => ⟨xs, h1, VRs.le h _ _ h2⟩
  | .coll _, _, ⟨c, n, h1, h2⟩ => ⟨c, n, h.blk _ _ h1, h2⟩

/-- What an operation comes to. -/
def Good (P : Program) (R : Nat → Prop) (e : Env) (g : G) (W : World) (res : Result Next) : OpR → Prop
  | .fail _ => True
  | .val v g' => ∃ e' x W', res = .ok (.value x) W' ∧ e.Le e' ∧ VR e' v x ∧ Sim P R e' g' W' ∧ Keep R W W'
  | .skip g' => ∃ e' W', res = .ok .skip W' ∧ e.Le e' ∧ Sim P R e' g' W' ∧ Keep R W W'
  | .enter f as g' => g' = g ∧ ∃ xs, VRs e as xs.toList ∧ res = (callFunc f xs).run P W
  | .round l as g' => g' = g ∧ ∃ c n xs, e.blk l = some (c, n) ∧ VRs e as xs.toList ∧ res = (Instr.yield c xs).run P W
  | .defer d => ∃ D, DR e d D ∧ res = .ok (.defer D) W

theorem Good.pure (H : Here P R e g W asm t a nt) {v : AV} {x : Value} {res : Result Next} (hr : res = .ok (.value x) W) (hv : VR e v x) : Good P R e g W res (.val v g) :=
  ⟨e, x, W, hr, Env.Le.refl e, hv, H.sim, Keep.refl R W⟩

/-! ### Constants, operands -/
theorem optMap_cons {α β : Type} {f : α → Option β} {x : α} {l : List α} {r : List β} (h : optMap f (x :: l) = some r) :
    ∃ b s, f x = some b ∧ optMap f l = some s ∧ r = b :: s := by
  unfold optMap at h
  cases hx : f x with
  | none => rw [hx] at h; cases h
  | some b =>
    rw [hx] at h
    cases hs : optMap f l with
    | none => rw [hs] at h; cases h
    | some s => rw [hs] at h; cases h; exact ⟨b, s, rfl, rfl, rfl⟩
theorem optMap_nil {α β : Type} {f : α → Option β} {r : List β} (h : optMap f [] = some r) : r = [] := by cases h; rfl

theorem compV_sound (e : Env) : ∀ (n : Nat) (v : Value) (x : AV), compV n v = some x → VR e x v
  | 0, _, _, h => by cases h
  | n + 1, v, x, h => by
    have hl : ∀ (l : List Value) (r : List AV), optMap (compV n) l = some r → VRs e r l := by
      intro l
      induction l with
      | nil => intro r hr; rw [optMap_nil hr]; trivial
      | cons y l ih =>
        intro r hr
        obtain ⟨b, s, h1, h2, rfl⟩ := optMap_cons hr
        exact ⟨compV_sound e n y b h1, ih s h2⟩
    unfold compV at h
    split at h
    · cases h; rfl
    · rename_i k i
      cases hd : decide (toI k (ofI k i) = i)
      · rw [hd] at h; cases h
      · rw [hd] at h; cases h
        exact ⟨by simp [SE.ev, of_decide_eq_true hd], ofI_lt k i⟩
    · cases h; rfl
    · cases h; rfl
    · cases h; rfl
    · cases h; rfl
    · rename_i f first cap
      cases hd : (first.toList.isEmpty && cap.toList.isEmpty)
      · rw [hd] at h; cases h
      · rw [hd] at h; cases h
        simp only [Bool.and_eq_true, List.isEmpty_iff] at hd
        exact ⟨first, cap, rfl, by rw [hd.1]; trivial, by rw [hd.2]; trivial⟩
    · cases h; rfl
    · cases h; rfl
    · rename_i cs
      cases hs : optMap (compV n) cs.toList with
      | none => rw [hs] at h; cases h
      | some l => rw [hs] at h; cases h; exact ⟨cs, rfl, hl _ _ hs⟩
    · rename_i cs
      cases hs : optMap (compV n) cs.toList with
      | none => rw [hs] at h; cases h
      | some l => rw [hs] at h; cases h; exact ⟨cs, rfl, hl _ _ hs⟩
    · cases h

theorem blt_lt {a b : Nat} (h : Nat.blt a b = true) : a < b := by simpa [Nat.blt_eq] using h

theorem Here.opd (H : Here P R e g W asm t a nt) {o : Operand} {x : XOpd} (h : compO nt o = some x) : VR e (Sx.opd t x) (a.eval o) := by
  cases o with
  | tmp i =>
    simp only [compO] at h
    cases hb : Nat.blt i nt
    · rw [hb] at h; cases h
    · rw [hb] at h; cases h
      exact H.tr i (Nat.lt_of_lt_of_le (blt_lt hb) H.nt)
  | const v =>
    simp only [compO] at h
    cases hs : compV 8 v with
    | none => rw [hs] at h; cases h
    | some b => rw [hs] at h; cases h; exact compV_sound e 8 v b hs
  | func f => cases h; exact ⟨#[], #[], rfl, trivial, trivial⟩
  | global g => cases h

theorem Here.opds (H : Here P R e g W asm t a nt) {os : Array Operand} {xs : List XOpd} (h : compOs nt os = some xs) : VRs e (lmap (Sx.opd t) xs) (os.map a.eval).toList := by
  rw [lmap_eq, Array.toList_map]
  unfold compOs at h
  generalize os.toList = l at h
  induction l generalizing xs with
  | nil => rw [optMap_nil h]; trivial
  | cons y l ih =>
    obtain ⟨b, s, h1, h2, rfl⟩ := optMap_cons h
    exact ⟨H.opd h1, ih h2⟩

/-! ### Truths -/
theorem kindEq_eq {k l : IntKind} (h : kindEq k l = true) : k = l := by cases k <;> cases l <;> first | rfl | cases h
theorem binEq_eq {k l : BinOp} (h : binEq k l = true) : k = l := by
  have := beq_t h
  cases k <;> cases l <;> first | rfl | (exact absurd this (by decide))
theorem SE.eq_eq : ∀ {x y : SE}, x.eq y = true → x = y
  | .lit a, .lit b, h => by rw [beq_t h]
  | .var k i, .var l j, h => by
    unfold SE.eq at h; rw [Bool.and_eq_true] at h; rw [kindEq_eq h.1, beq_t h.2]
  | .sel k i c a, .sel l j d b, h => by
    unfold SE.eq at h; rw [Bool.and_eq_true, Bool.and_eq_true, Bool.and_eq_true] at h; rw [kindEq_eq h.1.1.1, beq_t h.1.1.2, beq_t h.1.2, SE.eq_eq h.2]
  | .bin o k a b, .bin p l c d, h => by
    unfold SE.eq at h; rw [Bool.and_eq_true, Bool.and_eq_true, Bool.and_eq_true] at h; rw [binEq_eq h.1.1.1, kindEq_eq h.1.1.2, SE.eq_eq h.1.2, SE.eq_eq h.2]
  | .conv s d a, .conv u v b, h => by
    unfold SE.eq at h; rw [Bool.and_eq_true, Bool.and_eq_true] at h; rw [kindEq_eq h.1.1, kindEq_eq h.1.2, SE.eq_eq h.2]
  | .lit _, .var .., h | .lit _, .sel .., h | .lit _, .bin .., h | .lit _, .conv .., h | .var .., .lit _, h | .var .., .sel .., h | .var .., .bin .., h | .var .., .conv .., h
  | .sel .., .lit _, h | .sel .., .var .., h | .sel .., .bin .., h | .sel .., .conv .., h | .bin .., .lit _, h | .bin .., .var .., h | .bin .., .sel .., h | .bin .., .conv .., h
  | .conv .., .lit _, h | .conv .., .var .., h | .conv .., .sel .., h | .conv .., .bin .., h => by cases h
theorem SB.eq_eq : ∀ {x y : SB}, x.eq y = true → x = y
  | .lit a, .lit b, h => by unfold SB.eq at h; rw [beq_iff_eq.1 h]
  | .cmp o k a b, .cmp p l c d, h => by
    unfold SB.eq at h; rw [Bool.and_eq_true, Bool.and_eq_true, Bool.and_eq_true] at h; rw [binEq_eq h.1.1.1, kindEq_eq h.1.1.2, SE.eq_eq h.1.2, SE.eq_eq h.2]
  | .not a, .not b, h => by unfold SB.eq at h; rw [SB.eq_eq h]
  | .lit _, .cmp .., h | .lit _, .not _, h | .cmp .., .lit _, h | .cmp .., .not _, h | .not _, .lit _, h | .not _, .cmp .., h => by cases h
  | .prop _, .lit _, h | .prop _, .cmp .., h | .prop _, .not _, h | .prop _, .prop _, h | .lit _, .prop _, h | .cmp .., .prop _, h | .not _, .prop _, h => by cases h

theorem find_sound {s : SB} (hs : ∀ p ∈ asm, p.1.ev e = p.2) (l : Asm) : ∀ (acc : Option Bool) (r : Bool), (∀ p ∈ l, p ∈ asm) → (∀ b, acc = some b → s.ev e = b) →
    lfold (fun (x : SB × Bool) (acc : Option Bool) => match acc with | some r => some r | none => cond (x.1.eq s) (some x.2) none) l acc = some r → s.ev e = r := by
  induction l with
  | nil => intro acc r _ ha h; exact ha r h
  | cons x l ih =>
    intro acc r hm ha h
    refine ih _ r (fun p hp => hm p (by simp [hp])) (fun b hb => ?_) h
    cases acc with
    | some q => exact ha b hb
    | none =>
      simp only at hb
      cases hq : x.1.eq s
      · rw [hq] at hb; cases hb
      · rw [hq] at hb; cases hb
        rw [← SB.eq_eq hq]
        exact hs x (hm x (by simp))
theorem decB_sound (H : Here P R e g W asm t a nt) {s : SB} {r : Bool} (h : decB asm s = some r) : s.ev e = r := by
  cases s with
  | lit b => cases h; rfl
  | cmp o k x y => exact find_sound H.asm asm none r (fun p hp => hp) (fun b hb => by cases hb) h
  | not s => exact find_sound H.asm asm none r (fun p hp => hp) (fun b hb => by cases hb) h
  | prop p => cases h

theorem decN_sound (H : Here P R e g W asm t a nt) {k : IntKind} {x : SE} {n : Nat} (h : decN asm k x = some n) (hx : x.ev e < md k) : x.ev e = n ∧ n < md k := by
  have key : ∀ (l : Asm) (acc : Option Nat), (∀ p ∈ l, p ∈ asm) → (∀ m, acc = some m → x.ev e = m ∧ m < md k) →
      lfold (fun (y : SB × Bool) (acc : Option Nat) => match acc with
        | some r => some r
        | none => match y with
          | (.cmp .eql l a (.lit n), true) => cond (kindEq k l && a.eq x && Nat.blt n (md k)) (some n) none
          | _ => none) l acc = some n → x.ev e = n ∧ n < md k := by
    intro l
    induction l with
    | nil => intro acc _ ha h; exact ha n h
    | cons y l ih =>
      intro acc hm ha h
      refine ih _ (fun p hp => hm p (by simp [hp])) (fun m hb => ?_) h
      cases acc with
      | some q => exact ha m hb
      | none =>
        simp only at hb
        split at hb
        · rename_i l' a' n' 
          cases hq : (kindEq k l' && a'.eq x && Nat.blt n' (md k))
          · rw [hq] at hb; cases hb
          · rw [hq] at hb; cases hb
            simp only [Bool.and_eq_true] at hq
            have := H.asm _ (hm (.cmp .eql l' a' (.lit m), true) (by simp))
            simp only [SB.ev, cmpN, SE.ev] at this
            rw [SE.eq_eq hq.1.2] at this
            exact ⟨beq_t this, blt_lt hq.2⟩
        · cases hb
  cases x with
  | lit m => cases h; exact ⟨rfl, hx⟩
  | _ => exact key asm none (fun p hp => hp) (fun m hm => by cases hm) h

theorem mkCmp_ev (e : Env) (o : BinOp) (k : IntKind) (x y : SE) : (mkCmp o k x y).ev e = cmpN o k (x.ev e) (y.ev e) := by
  unfold mkCmp; split <;> rfl
theorem addL_ev (e : Env) (k : IntKind) (x : SE) (n : Nat) : (addL k x n).ev e = opN .add k (x.ev e) n := by
  unfold addL
  split
  · rename_i k2 b m
    cases hk : kindEq k k2
    · rfl
    · cases kindEq_eq hk
      show (b.ev e + (m + n) % md k) % md k = ((b.ev e + m) % md k + n) % md k
      rw [Nat.add_mod_mod, Nat.mod_add_mod, Nat.add_assoc]
  · rfl
theorem mkBin_ev (e : Env) (o : BinOp) (k : IntKind) (x y : SE) : (mkBin o k x y).ev e = opN o k (x.ev e) (y.ev e) := by
  unfold mkBin
  split
  · rfl
  · split
    · exact addL_ev ..
    · rw [addL_ev]; rfl
    · rfl
  · split
    · rw [addL_ev]
      show (y.ev e + _) % md k = (_ + y.ev e) % md k
      rw [Nat.add_comm]; rfl
    · rfl
  · rfl
theorem normE_sound (H : Here P R e g W asm t a nt) {k : IntKind} {x : SE} (_hx : x.ev e < md k) : (normE asm k x).ev e = x.ev e := by
  have key : ∀ (l : Asm) (acc : SE), (∀ p ∈ l, p ∈ asm) → acc.ev e = x.ev e →
      (lfold (fun (y : SB × Bool) (acc : SE) => match y with
        | (.cmp .eql l a r, true) => cond (kindEq k l && a.eq x) r acc
        | _ => acc) l acc).ev e = x.ev e := by
    intro l
    induction l with
    | nil => intro acc _ ha; exact ha
    | cons y l ih =>
      intro acc hm ha
      refine ih _ (fun p hp => hm p (by simp [hp])) ?_
      dsimp only
      split
      · rename_i l' a' r'
        cases hq : (kindEq k l' && a'.eq x)
        · exact ha
        · rw [Bool.and_eq_true] at hq
          have := H.asm _ (hm (.cmp .eql l' a' r', true) (by simp))
          simp only [SB.ev, cmpN] at this
          rw [SE.eq_eq hq.2] at this
          exact (beq_t this).symm
      · exact ha
  unfold normE
  split
  · rfl
  · exact key asm _ (fun p hp => hp) rfl
theorem normB_sound (H : Here P R e g W asm t a nt) (s : SB) : (normB asm s).ev e = s.ev e := by
  unfold normB
  split
  · rename_i b hb
    exact (decB_sound H hb).symm
  · rfl
theorem belowE_sound (H : Here P R e g W asm t a nt) {x y : SE} (h : belowE asm x y = true) : x.ev e < y.ev e := by
  unfold belowE at h
  split at h
  · rename_i b hb
    subst h
    have := decB_sound H hb
    rw [mkCmp_ev] at this
    simp only [cmpN, bias, sgn, cond_false, Bool.not_eq_true'] at this
    exact ble_lt this
  · cases h
theorem offE_sound {n x : SE} {j : Nat} (h : offE n x = some j) : x.ev e = n.ev e + j ∨ x.ev e = (n.ev e + j) % md .i64 := by
  unfold offE at h
  cases he : n.eq x
  · rw [he, cond_false] at h
    split at h
    · rename_i a m
      cases ha : a.eq n
      · rw [ha, cond_false] at h
        split at h
        · rename_i b i
          cases hb : (a.eq b && Nat.ble i m && Nat.ble m 1048576)
          · rw [hb] at h; cases h
          · rw [hb] at h; cases h
            simp only [Bool.and_eq_true] at hb
            cases SE.eq_eq hb.1.1
            have := ble_le hb.1.2
            refine .inr ?_
            show (a.ev e + m) % md .i64 = ((a.ev e + i) % md .i64 + (m - i)) % md .i64
            rw [Nat.mod_add_mod]
            congr 1; omega
        · cases h
      · rw [ha] at h; cases h
        cases SE.eq_eq ha
        exact .inr rfl
    · rename_i m
      split at h
      · rename_i i
        cases hb : Nat.ble i m
        · rw [hb] at h; cases h
        · rw [hb] at h; cases h
          have := ble_le hb
          refine .inl ?_
          show m = i + (m - i)
          omega
      · cases h
    · cases h
  · rw [he] at h
    cases h
    cases SE.eq_eq he
    exact .inl rfl
theorem offE_exact {n x : SE} {j : Nat} (h : offE n x = some j) (hb : n.ev e + j < 2 ^ 63) : x.ev e = n.ev e + j := by
  rcases offE_sound (e := e) h with h1 | h1
  · exact h1
  · rw [h1]; exact Nat.mod_eq_of_lt (by simp only [md]; omega)
theorem boundE_sound (H : Here P R e g W asm t a nt) {x : SE} {n : Nat} (h : boundE asm x = some n) : x.ev e < n := by
  have key : ∀ (l : Asm) (acc : Option Nat), (∀ p ∈ l, p ∈ asm) → (∀ m, acc = some m → x.ev e < m) →
      lfold (fun (y : SB × Bool) (acc : Option Nat) => match acc with
        | some r => some r
        | none => match y with
          | (.cmp .lss .u64 a (.lit n), true) => cond (a.eq x) (some n) none
          | _ => none) l acc = some n → x.ev e < n := by
    intro l
    induction l with
    | nil => intro acc _ ha h; exact ha n h
    | cons y l ih =>
      intro acc hm ha h
      refine ih _ (fun p hp => hm p (by simp [hp])) (fun m hb => ?_) h
      cases acc with
      | some q => exact ha m hb
      | none =>
        simp only at hb
        split at hb
        · rename_i a' n'
          cases hq : a'.eq x
          · rw [hq] at hb; cases hb
          · rw [hq] at hb; cases hb
            have := H.asm _ (hm (.cmp .lss .u64 a' (.lit m), true) (by simp))
            rw [SE.eq_eq hq] at this
            simp only [SB.ev, cmpN, SE.ev, bias, sgn, cond_false, Bool.not_eq_true'] at this
            exact ble_lt this
        · cases hb
  cases x with
  | lit m => cases h; exact Nat.lt_succ_self _
  | _ => exact key asm none (fun p hp => hp) (fun m hm => by cases hm) h
theorem mkConv_ev (e : Env) (s d : IntKind) (x : SE) : (mkConv s d x).ev e = convN s d (x.ev e) := by
  unfold mkConv; split <;> rfl
theorem mkNot_ev (e : Env) (x : SB) : (mkNot x).ev e = !x.ev e := by
  unfold mkNot; split <;> rfl

end Go.Sx
/-
  The operations, one by one: what the model's operation comes to, where the evaluator has an answer.
-/
namespace Go.Sx
open Go

variable {P : Program} {R : Nat → Prop} {e : Env} {g : G} {W : World} {asm : Asm} {t : Tr AV} {a : Act} {nt : Nat}

/-! ### Types -/
theorem info_run {ty : TypeId} {i : TypeInfo} (h : P.info? ty = some i) (W : World) : (typeInfo ty).run P W = .ok i W := run_typeInfo W h
theorem sizeT_run {ty : TypeId} {s : Nat} (h : sizeT P ty = some s) (W : World) : (sizeOf ty).run P W = .ok s W := by
  unfold sizeT at h
  cases hi : P.info? ty with
  | none => rw [hi] at h; cases h
  | some i => rw [hi] at h; cases h; simp [sizeOf, info_run hi, Result.andThen]
theorem isAggT_run {ty : TypeId} {b : Bool} (h : isAggT P ty = some b) (W : World) : (isAgg ty).run P W = .ok b W := by
  unfold isAggT at h
  cases hu : P.underlying ty with
  | none => rw [hu] at h; cases h
  | some d =>
    rw [hu] at h
    cases d <;> cases h <;> simp [isAgg, run_underlying hu, Result.andThen]
theorem aggN_some {ty : TypeId} {n : Option Nat} (h : aggN P ty = some n) :
    (∃ i, P.info? ty = some i ∧ isAggT P ty = some true ∧ n = some i.size) ∨ (isAggT P ty = some false ∧ n = none) := by
  unfold aggN at h
  split at h
  · rename_i i h1 h2; cases h; exact .inl ⟨i, h1, h2, rfl⟩
  · rename_i i h1 h2; cases h; exact .inr ⟨h2, rfl⟩
  · cases h
theorem zeroV_run {ty : TypeId} {z : AV} (h : zeroV P ty = some z) (e : Env) (W : World) : ∃ x, (zeroValue ty).run P W = .ok x W ∧ VR e z x := by
  unfold zeroV at h
  cases hi : P.info? ty with
  | none => rw [hi] at h; cases h
  | some i =>
    rw [hi] at h
    simp only at h
    cases hz : i.zero with
    | none => rw [hz] at h; cases h
    | some x =>
      rw [hz] at h
      exact ⟨x, by simp [zeroValue, info_run hi, hz, Result.andThen], compV_sound e 8 x z h⟩
theorem zeroC_run {ty : TypeId} {z : List AV} (h : zeroC P ty = some z) (e : Env) (W : World) : ∃ x, (zeroValue ty).run P W = .ok x W ∧ VRs e z x.cells.toList := by
  unfold zeroC at h
  cases hi : P.info? ty with
  | none => rw [hi] at h; cases h
  | some i =>
    rw [hi] at h
    simp only at h
    cases hz : i.zero with
    | none => rw [hz] at h; cases h
    | some x =>
      rw [hz] at h
      simp only at h
      cases hv : compV 8 x with
      | none => rw [hv] at h; cases h
      | some v =>
        rw [hv] at h
        exact ⟨x, by simp [zeroValue, info_run hi, hz, Result.andThen], (compV_sound e 8 x v hv).cells h⟩
theorem fieldOf_some {ty : TypeId} {f : Nat} {fl : Field} (h : fieldOf P ty f = some fl) : ∃ fs, P.underlying ty = some (.struct fs) ∧ fs[f]? = some fl := by
  unfold fieldOf at h
  split at h
  · rename_i fs hu; exact ⟨fs, hu, h⟩
  · cases h

/-! ### What values are -/
/-- What a load of rows comes to. -/
def RowLd (P : Program) (W : World) (e : Env) (c off : Nat) (v : AV) : Option Nat → Prop
  | none => ∃ x, W.cell? ⟨c, off, none⟩ = some x ∧ VR e v x
  | some n => ∃ xs, (loadCells ⟨c, off, none⟩ n).run P W = .ok xs W ∧ VR e v (.agg xs)
/-- What a row's cells hold. -/
def rowVals (e : Env) (j q : Nat) : List IntKind → Nat → List Value
  | [], _ => []
  | k :: ks, c => .int k (toI k (e.arr j c q)) :: rowVals e j q ks (c + 1)
theorem VR.int {k : IntKind} {x : SE} {v : Value} (h : VR e (.int k x) v) : v = .int k (toI k (x.ev e)) ∧ x.ev e < md k := h
theorem VR.boolv {s : SB} {v : Value} (h : VR e (.bool s) v) : v = .bool (s.ev e) := h
theorem VR.ptrv {b o : Nat} {v : Value} (h : VR e (.ptr b o) v) : ∃ c n, e.blk b = some (c, n) ∧ v = .pointer (some ⟨c, o, none⟩) := h
theorem toI_nonneg {k : IntKind} {n : Nat} (h : negN k n = false) : toI k n = (n : Int) := by
  rcases toI_cases k n with ⟨h1, _⟩ | ⟨_, h2⟩
  · rw [h] at h1; cases h1
  · exact h2

theorem Good.fail {n : Nat} {res : Result Next} : Good P R e g W res (.fail n) := trivial
/-- A new block. -/
theorem Good.alloc (H : Here P R e g W asm t a nt) {v : AV} {o : AO} {ob : Obj} {n : Nat} {x : Value} {res : Result Next} (hr : res = .ok (.value x) { W with heap := W.heap.push ob })
    (hor : ∀ e', e.Le e' → OR P e' o n ob) (hv : ∀ e', e.Le e' → e'.blk g.next = some (W.heap.size, n) → VR e' v x) : Good P R e g W res (.val v (hnew g o)) := by
  have hle : e.Le (e.add g.next (W.heap.size, n)) := Env.add_le (H.sim.fresh _ (Nat.le_refl _)) H.sim.nxt
  obtain ⟨s, l, k⟩ := H.sim.alloc (o := o) (n := n) (NewAt.push W ob) (hor _ hle)
  exact ⟨_, x, _, hr, l, hv _ l (Env.add_here ..), s, k⟩
theorem OR.new {vs : List AV} {xs : Array Value} {ty : TypeId} {own tl : Bool} (h : VRs e vs xs.toList) : OR P e (.cells vs own tl) xs.size (.cells xs ty (0, 0)) := by
  have := h.length
  refine ⟨rfl, by rw [this]; simp, ?_, rfl⟩
  rw [this, List.take_of_length_le (by simp)]; exact h

section
variable (H : Here P R e g W asm t a nt)
include H

theorem s_mv {o : Operand} {x : XOpd} (h : compO nt o = some x) : Good P R e g W (.ok (.value (a.eval o)) W) (o_mv x t g) := Good.pure H rfl (H.opd h)

theorem s_pick {c p q : Operand} {xc xp xq : XOpd} (hc : compO nt c = some xc) (hp : compO nt p = some xp) (hq : compO nt q = some xq) :
    Good P R e g W ((do pure (.value (if ← asBool (a.eval c) then a.eval p else a.eval q)) : Sem Next).run P W) (o_pick asm xc xp xq t g) := by
  have h := H.opd hc
  unfold o_pick
  split
  · rename_i s hs
    rw [hs] at h
    rw [h.boolv]
    split
    · rename_i r hr
      rw [decB_sound H hr]
      refine Good.pure H (x := cond r (a.eval p) (a.eval q)) (by cases r <;> simp [asBool, Result.andThen]) ?_
      cases r
      · exact H.opd hq
      · exact H.opd hp
    · trivial
  · trivial

theorem s_new {ty : TypeId} {z : List AV} (h : zeroC P ty = some z) :
    Good P R e g W ((do pure (.value (← Instr.alloc ty true (.tuple #[]))) : Sem Next).run P W) (o_new z t g) := by
  obtain ⟨x, hx, hv⟩ := zeroC_run h e W
  refine Good.alloc H (n := x.cells.size) (x := .pointer (some ⟨W.heap.size, 0, none⟩)) (ob := .cells x.cells ty (0, 0)) ?_ (fun e' l => OR.new (VRs.le l _ _ hv)) (fun e' l hb => ⟨_, _, hb, rfl⟩)
  simp [Instr.alloc, hx, newVar, newRow, Result.andThen]

theorem s_box {ty : TypeId} {o : Operand} {x : XOpd} (h : compO nt o = some x) :
    Good P R e g W ((do pure (.value (← Instr.box ty (a.eval o))) : Sem Next).run P W) (o_box x t g) := by
  have hv := H.opd h
  unfold o_box
  split
  · rename_i cs hc
    have hcs := hv.cells hc
    refine Good.alloc H (n := (a.eval o).cells.size) (x := .pointer (some ⟨W.heap.size, 0, none⟩)) (ob := .cells (a.eval o).cells ty (0, 0)) ?_ (fun e' l => OR.new (VRs.le l _ _ hcs)) (fun e' l hb => ⟨_, _, hb, rfl⟩)
    simp [Instr.box, newVar, newRow, Result.andThen]
  · trivial

omit H in
theorem rowCells_sound (H : Here P R e g W asm t a nt) {j : Nat} {i : SE} : ∀ (ks : List IntKind) (c : Nat), (∀ (d : Nat) k, ks[d]? = some k → e.arr j (c + d) (i.ev e) < md k) → VRs e (rowCells asm j i ks c) (rowVals e j (i.ev e) ks c)
  | [], _, _ => trivial
  | k :: ks, c, h => by
    have h0 := h 0 k rfl
    have hev : (SE.sel k j c i).ev e = e.arr j c (i.ev e) := Nat.mod_eq_of_lt h0
    refine ⟨⟨?_, ?_⟩, rowCells_sound H ks (c + 1) fun d k' hd => ?_⟩
    · rw [normE_sound H (by rw [hev]; exact h0), hev]
    · rw [normE_sound H (by rw [hev]; exact h0), hev]; exact h0
    · have := h (d + 1) k' (by simpa using hd)
      rwa [show c + (d + 1) = c + 1 + d by omega] at this
omit H in
theorem rowVals_get (e : Env) (j q : Nat) : ∀ (ks : List IntKind) (c d : Nat), (rowVals e j q ks c)[d]? = (ks[d]?).map fun k => .int k (toI k (e.arr j (c + d) q))
  | [], c, d => by simp [rowVals]
  | k :: ks, c, 0 => by simp [rowVals]
  | k :: ks, c, d + 1 => by
    simp only [rowVals, List.getElem?_cons_succ]
    rw [rowVals_get e j q ks (c + 1) d, show c + 1 + d = c + (d + 1) by omega]
theorem loadRow_sound {n : Option Nat} {b c m sz co : Nat} {i : SE} {v : AV} (hc : e.blk b = some (c, m)) (hl : loadRow asm g n b i sz co = some v) : RowLd P W e c (i.ev e * sz + co) v n := by
  unfold loadRow at hl
  split at hl
  · rename_i j ks p cs hg
    obtain ⟨c', arr, el, h1, h2, h3, h4, h5, h6, h7⟩ := H.sim.rows hg
    rw [hc] at h1; cases h1
    cases hsz : Nat.beq sz (llen ks)
    · rw [hsz] at hl; cases hl
    · rw [hsz, cond_true] at hl
      have hsz := beq_t hsz
      rw [llen_eq] at hsz
      subst hsz
      split at hl
      · rename_i r hr
        -- behind the rows
        have ex : ∀ {k : Nat}, r * ks.length + co + k ≤ cs.length → 1 ≤ ks.length → i.ev e * ks.length + co = p.ev e * ks.length + (r * ks.length + co) := by
          intro k hk h1
          have hr1 : r ≤ r * ks.length := Nat.le_mul_of_pos_right r (by omega)
          rw [offE_exact hr (by omega), Nat.add_mul]; omega
        cases n with
        | none =>
          simp only at hl
          cases hb : Nat.ble ks.length co
          · rw [hb, cond_false, lget_eq] at hl
            have hb := ble_lt hb
            obtain ⟨x, hx, hv⟩ := h7.get hl
            have hlt := (List.getElem?_eq_some_iff.1 hl).1
            refine ⟨x, ?_, hv⟩
            rw [ex (k := 0) (by omega) (by omega), cell_of_row W c _ arr el _ h3]
            rw [List.getElem?_take_of_lt hlt, List.getElem?_drop] at hx
            simpa using hx
          · rw [hb] at hl; cases hl
        | some n =>
          simp only at hl
          cases hb : (Nat.ble (r * ks.length + co + n) (llen cs) && Nat.ble 1 ks.length)
          · rw [hb] at hl; cases hl
          · rw [hb] at hl
            cases hl
            simp only [Bool.and_eq_true] at hb
            have hle := ble_le hb.1
            rw [llen_eq] at hle
            have hv : VRs e (cut cs (r * ks.length + co) n) ((arr.toList.drop (p.ev e * ks.length + (r * ks.length + co))).take n) := by
              rw [cut_eq]
              have := (h7.drop (r * ks.length + co)).take n
              rw [List.drop_take, List.take_take, show min n (cs.length - (r * ks.length + co)) = n by omega, List.drop_drop] at this
              exact this
            have hlen : ((arr.toList.drop (p.ev e * ks.length + (r * ks.length + co))).take n).length = n := by simp; omega
            refine ⟨((arr.toList.drop (p.ev e * ks.length + (r * ks.length + co))).take n).toArray, ?_, ⟨_, rfl, by simpa using hv⟩⟩
            rw [ex hle (ble_le hb.2)]
            have := run_loadCells_list (P := P) W ⟨c, p.ev e * ks.length + (r * ks.length + co), none⟩ ((arr.toList.drop (p.ev e * ks.length + (r * ks.length + co))).take n) (fun j v hj => by
              rw [addr_add, cell_of_row W c _ arr el _ h3]
              have hjn : j < n := by
                have := (List.getElem?_eq_some_iff.1 hj).1
                omega
              rw [List.getElem?_take_of_lt hjn, List.getElem?_drop] at hj
              simpa using hj)
            rw [hlen] at this
            exact this
      · cases hbe : belowE asm i p
        · rw [hbe] at hl; cases hl
        · rw [hbe, cond_true] at hl
          have hlt := belowE_sound H hbe
          unfold rowAt at hl
          cases n with
          | none =>
            simp only at hl
            split at hl
            · rename_i k hk
              cases hl
              rw [lget_eq] at hk
              obtain ⟨q1, q2⟩ := h6 (i.ev e) hlt co k hk
              have hev : (SE.sel k j co i).ev e = e.arr j co (i.ev e) := Nat.mod_eq_of_lt q2
              refine ⟨_, by rw [cell_of_row W c _ arr el _ h3]; exact q1, ?_, ?_⟩
              · rw [normE_sound H (by rw [hev]; exact q2), hev]
              · rw [normE_sound H (by rw [hev]; exact q2), hev]; exact q2
            · cases hl
          | some n =>
            simp only at hl
            cases hb : Nat.ble (co + n) (llen ks)
            · rw [hb] at hl; cases hl
            · rw [hb, cond_true] at hl
              cases hl
              have hle := ble_le hb
              rw [llen_eq] at hle
              rw [ltake_eq, ldrop_eq]
              have hk : ∀ (d : Nat) k, ((ks.drop co).take n)[d]? = some k → ks[co + d]? = some k ∧ d < n := fun d k hd => by
                have hd1 : d < n := by
                  have := (List.getElem?_eq_some_iff.1 hd).1
                  simp at this; omega
                rw [List.getElem?_take_of_lt hd1, List.getElem?_drop] at hd
                exact ⟨hd, hd1⟩
              have hlen : (rowVals e j (i.ev e) ((ks.drop co).take n) co).length = n := by
                have : ∀ (l : List IntKind) (c : Nat), (rowVals e j (i.ev e) l c).length = l.length := by
                  intro l
                  induction l with
                  | nil => intro c; rfl
                  | cons k l ih => intro c; simp [rowVals, ih]
                rw [this]; simp; omega
              refine ⟨(rowVals e j (i.ev e) ((ks.drop co).take n) co).toArray, ?_, ⟨_, rfl, by
                simpa using rowCells_sound H ((ks.drop co).take n) co fun d k hd => (h6 (i.ev e) hlt (co + d) k (hk d k hd).1).2⟩⟩
              have := run_loadCells_list (P := P) W ⟨c, i.ev e * ks.length + co, none⟩ (rowVals e j (i.ev e) ((ks.drop co).take n) co) (fun d v hd => by
                rw [addr_add, cell_of_row W c _ arr el _ h3]
                rw [rowVals_get] at hd
                obtain ⟨k, hk1, rfl⟩ := Option.map_eq_some_iff.1 hd
                have := (h6 (i.ev e) hlt (co + d) k (hk d k hk1).1).1
                rwa [Nat.add_assoc])
              rw [hlen] at this
              exact this
  · cases hl

theorem s_load {ty : TypeId} {o : Operand} {x : XOpd} {n : Option Nat} (h : compO nt o = some x) (hn : aggN P ty = some n) :
    Good P R e g W ((do pure (.value (← Instr.loadAt ty (a.eval o))) : Sem Next).run P W) (o_load asm n x t g) := by
  have hv := H.opd h
  unfold o_load
  split
  · rename_i b off hx
    rw [hx] at hv
    obtain ⟨c, m, hb, he⟩ := hv
    rw [he]
    split
    · rename_i v hl
      rcases aggN_some hn with ⟨i, h1, h2, rfl⟩ | ⟨h2, rfl⟩
      · obtain ⟨xs, hr, hv⟩ := H.sim.loadN (P := P) hb hl
        refine Good.pure H (x := .agg xs) ?_ hv
        simp [Instr.loadAt, Instr.sureAddr, loadVar, isAggT_run h2, sizeOf, info_run h1, hr, Result.andThen]
      · obtain ⟨x, hr, hv⟩ := H.sim.load1 hb hl
        refine Good.pure H (x := x) ?_ hv
        simp [Instr.loadAt, Instr.sureAddr, loadVar, isAggT_run h2, hr, Result.andThen]
    · trivial
  · rename_i b i sz co hx
    rw [hx] at hv
    obtain ⟨c, m, hb, he⟩ := hv
    rw [he]
    split
    · rename_i v hl
      have hr := loadRow_sound H hb hl
      rcases aggN_some hn with ⟨i, h1, h2, rfl⟩ | ⟨h2, rfl⟩
      · obtain ⟨xs, hr, hv⟩ := hr
        refine Good.pure H (x := .agg xs) ?_ hv
        simp [Instr.loadAt, Instr.sureAddr, loadVar, isAggT_run h2, sizeOf, info_run h1, hr, Result.andThen]
      · obtain ⟨x, hr, hv⟩ := hr
        refine Good.pure H (x := x) ?_ hv
        simp [Instr.loadAt, Instr.sureAddr, loadVar, isAggT_run h2, hr, Result.andThen]
    · trivial
  · trivial

theorem s_store {ty : TypeId} {o v : Operand} {x y : XOpd} {n : Nat} (h : compO nt o = some x) (hv : compO nt v = some y) (hn : sizeT P ty = some n) :
    Good P R e g W ((do Instr.storeAt ty (a.eval o) (a.eval v); pure .skip : Sem Next).run P W) (o_store n x y t g) := by
  have hx := H.opd h
  have hy := H.opd hv
  unfold o_store
  split
  · rename_i b off he
    rw [he] at hx
    obtain ⟨c, m, hb, he⟩ := hx
    rw [he]
    split
    · rename_i g' hs
      obtain ⟨W', r1, r2, r3, r4⟩ := H.sim.store (P := P) hb hs hy
      refine ⟨e, W', ?_, Env.Le.refl e, r3, r4⟩
      simp [Instr.storeAt, Instr.sureAddr, storeVar, sizeT_run hn, r2, r1, Result.andThen]
    · trivial
  · trivial

theorem s_not {o : Operand} {x : XOpd} (h : compO nt o = some x) : Good P R e g W ((do pure (.value (← Op.unary .not (a.eval o))) : Sem Next).run P W) (o_not x t g) := by
  have hx := H.opd h
  unfold o_not
  split
  · rename_i b hb
    rw [hb] at hx
    rw [hx.boolv]
    exact Good.pure H (x := .bool (!b.ev e)) (by simp [Op.unary, Result.andThen]) (by simp only [VR, mkNot_ev])
  · trivial

theorem s_neg {o : Operand} {x : XOpd} (h : compO nt o = some x) : Good P R e g W ((do pure (.value (← Op.unary .neg (a.eval o))) : Sem Next).run P W) (o_neg x t g) := by
  have hx := H.opd h
  unfold o_neg
  split
  · rename_i k s hb
    rw [hb] at hx
    obtain ⟨h1, h2⟩ := hx.int
    rw [h1]
    refine Good.pure H (x := .int k (k.wrap (0 - toI k (s.ev e)))) (by simp [Op.unary, Op.intArith, Result.andThen]) ?_
    simp only [VR, mkBin_ev]
    refine ⟨?_, opN_lt _ _ (md_pos k) (fun _ => h2)⟩
    have h0 : (0 : Int) = toI k 0 := by cases k <;> decide
    rw [h0, sub_toI k 0 _ h2]
    rfl
  · trivial

theorem s_cpl {o : Operand} {x : XOpd} (h : compO nt o = some x) : Good P R e g W ((do pure (.value (← Op.unary .xor (a.eval o))) : Sem Next).run P W) (o_cpl x t g) := by
  have hx := H.opd h
  unfold o_cpl
  split
  · rename_i k s hb
    rw [hb] at hx
    obtain ⟨h1, h2⟩ := hx.int
    rw [h1]
    have hm : md k - 1 < md k := by have := md_pos k; omega
    have hb := bits_toI .xor k (.inr (.inr (.inl rfl))) hm h2 (P := P) (w := W)
    have hk : (if k.signed then (-1 : Int) else k.max) = toI k (md k - 1) := by cases k <;> decide
    refine Good.pure H (x := .int k (toI k (opN .xor k (md k - 1) (s.ev e)))) (by simp [Op.unary, hk, hb, Result.andThen]) ?_
    simp only [VR, mkBin_ev]
    exact ⟨rfl, opN_lt _ _ hm (fun _ => h2)⟩
  · trivial

theorem s_nilCheck {o : Oper} {p : Operand} {x : XOpd} (ho : o.op = .nilCheck p) (h : compO nt p = some x) : Good P R e g W ((execOp a.eval o).run P W) (o_nilCheck x t g) := by
  have hx := H.opd h
  unfold o_nilCheck
  split
  · rename_i b off he
    rw [he] at hx
    have hx' := hx
    obtain ⟨c, m, hb, he⟩ := hx
    refine Good.pure H (x := a.eval p) ?_ hx'
    simp [execOp, ho, he]
  · rename_i b i sz co he
    rw [he] at hx
    have hx' := hx
    obtain ⟨c, m, hb, he⟩ := hx
    refine Good.pure H (x := a.eval p) ?_ hx'
    simp [execOp, ho, he]
  · trivial

theorem s_conv {s d : TypeId} {k ks : IntKind} {o : Operand} {x : XOpd} (h : compO nt o = some x) (hs : P.underlying s = some (.int ks)) (hd : P.underlying d = some (.int k)) :
    Good P R e g W ((do pure (.value (← convert s d (a.eval o))) : Sem Next).run P W) (o_conv asm k x t g) := by
  have hx := H.opd h
  unfold o_conv
  split
  · rename_i kx s' hb
    rw [hb] at hx
    obtain ⟨h1, h2⟩ := hx.int
    rw [h1]
    refine Good.pure H (x := .int k (k.wrap (toI kx (s'.ev e)))) (by simp [convert, run_underlying hs, run_underlying hd, Conv.intToInt, Result.andThen]) ?_
    have hlt := convN_lt kx k h2
    rw [← mkConv_ev] at hlt
    refine ⟨?_, ?_⟩
    · rw [normE_sound H hlt, mkConv_ev, conv_toI kx k h2]
    · rw [normE_sound H hlt]; exact hlt
  · trivial

theorem s_convP {s d el : TypeId} {n : Nat} {o : Operand} {x : XOpd} (h : compO nt o = some x) (hs : P.underlying s = some (.pointer el)) (hd : P.underlying d = some .unsafePointer) (hn : sizeT P el = some n) (h0 : n ≠ 0) :
    Good P R e g W ((do pure (.value (← convert s d (a.eval o))) : Sem Next).run P W) (o_convP x t g) := by
  have hx := H.opd h
  unfold o_convP
  split
  · rename_i b off he
    rw [he] at hx
    obtain ⟨c, m, hb, he⟩ := hx
    split
    · rename_i cs ow tl hg
      cases hc : Nat.ble (llen cs) off
      · have hlt := ble_lt hc
        rw [llen_eq] at hlt
        obtain ⟨c', arr, ty, q1, q2, q3, q4, q5⟩ := H.sim.cells hg
        rw [hb] at q1; cases q1
        rw [cond_false, he]
        refine Good.pure H (x := .pointer (some ⟨c, off, none⟩)) ?_ ⟨c, _, hb, rfl⟩
        have hsh : W.shape? c = some (ty, arr.size) := by simp [World.shape?, q3]
        have hoff : ¬ arr.size ≤ off := by omega
        simp [convert, run_underlying hs, run_underlying hd, Conv.unsafePointer, Conv.seenAt, viewAt, cellsIn, hsh, sizeT_run hn, h0, hoff, Result.andThen]
      · trivial
    · trivial
  · trivial

theorem s_fieldAddr {st : TypeId} {f s : Nat} {fl : Field} {o : Operand} {x : XOpd} (h : compO nt o = some x) (hf : fieldOf P st f = some fl) (hs : sizeT P fl.type = some s) (h0 : s ≠ 0) :
    Good P R e g W ((do pure (.value (← Instr.fieldAt st (a.eval o) f)) : Sem Next).run P W) (o_fieldAddr fl.offset x t g) := by
  have hx := H.opd h
  obtain ⟨fs, hu, hfl⟩ := fieldOf_some hf
  unfold o_fieldAddr
  split
  · rename_i b off he
    rw [he] at hx
    obtain ⟨c, m, hb, he⟩ := hx
    rw [he]
    refine Good.pure H (x := .pointer (some ⟨c, off + fl.offset, none⟩)) ?_ ⟨c, m, hb, rfl⟩
    simp [Instr.fieldAt, run_underlying hu, hfl, Instr.sureAddr, fieldPlace, sizeT_run hs, h0, addr_add, Result.andThen]
  · rename_i b i sz co he
    rw [he] at hx
    obtain ⟨c, m, hb, he⟩ := hx
    rw [he]
    refine Good.pure H (x := .pointer (some ⟨c, i.ev e * sz + co + fl.offset, none⟩)) ?_ ⟨c, m, hb, by rw [Nat.add_assoc]⟩
    simp [Instr.fieldAt, run_underlying hu, hfl, Instr.sureAddr, fieldPlace, sizeT_run hs, h0, addr_add, Result.andThen]
  · trivial

theorem s_part {ty : TypeId} {n : Option Nat} {cs : List AV} {xs : Array Value} {off : Nat} (hn : aggN P ty = some n) (hv : VRs e cs xs.toList) :
    Good P R e g W ((do pure (.value (← part ty xs off)) : Sem Next).run P W) (partOf cs off n g) := by
  rcases aggN_some hn with ⟨i, h1, h2, rfl⟩ | ⟨h2, rfl⟩
  · refine Good.pure H (x := .agg (xs.extract off (off + i.size))) (by simp [part, isAggT_run h2, sizeOf, info_run h1, Result.andThen]) ⟨_, rfl, ?_⟩
    rw [cut_eq]
    have := (hv.drop off).take i.size
    simpa [Array.toList_extract, List.extract_eq_take_drop, Nat.add_sub_cancel_left] using this
  · unfold partOf
    simp only
    split
    · rename_i v hl
      rw [lget_eq] at hl
      obtain ⟨x, h3, h4⟩ := hv.get hl
      refine Good.pure H (x := x) ?_ h4
      have h5 : xs[off]? = some x := by simpa using h3
      simp [part, isAggT_run h2, h5, Result.andThen]
    · trivial

theorem s_field {st : TypeId} {f : Nat} {n : Option Nat} {fl : Field} {o : Operand} {x : XOpd} (h : compO nt o = some x) (hf : fieldOf P st f = some fl) (hn : aggN P fl.type = some n) :
    Good P R e g W ((do pure (.value (← Instr.field st (a.eval o) f)) : Sem Next).run P W) (o_field fl.offset n x t g) := by
  have hx := H.opd h
  obtain ⟨fs, hu, hfl⟩ := fieldOf_some hf
  unfold o_field
  split
  · rename_i cs he
    rw [he] at hx
    obtain ⟨xs, he, hv⟩ := hx
    rw [he]
    have := s_part H (off := fl.offset) hn hv
    simpa [Instr.field, run_underlying hu, hfl, asAgg, Result.andThen] using this
  · trivial

theorem idx_run {o : Operand} {x : XOpd} {k : IntKind} {s : SE} {n : Nat} (h : compO nt o = some x) (hx : opd t x = .int k s) (hd : decN asm k s = some n) (hn : negN k n = false) :
    a.eval o = .int k (n : Int) := by
  have h1 := H.opd h
  rw [hx] at h1
  obtain ⟨h1, h2⟩ := h1.int
  obtain ⟨h3, h4⟩ := decN_sound H hd h2
  rw [h1, h3, toI_nonneg hn]

theorem s_idxArr {ty el : TypeId} {len size : Nat} {o i : Operand} {x y : XOpd} (h : compO nt o = some x) (hi : compO nt i = some y) (hu : P.underlying ty = some (.array len el)) (hs : sizeT P el = some size) :
    Good P R e g W ((do pure (.value (← Instr.indexAt ty (a.eval o) (a.eval i))) : Sem Next).run P W) (o_idxArr asm len size x y t g) := by
  have hx := H.opd h
  unfold o_idxArr
  split
  · rename_i b off he
    rw [he] at hx
    obtain ⟨c, m, hb, he⟩ := hx
    split
    · rename_i k s hk
      split
      · rename_i n hd
        cases hc : (Nat.ble len n || negN k n)
        · simp only [Bool.or_eq_false_iff] at hc
          have hlt := ble_lt hc.1
          have hi' := idx_run H hi hk hd hc.2
          rw [cond_false, he, hi']
          refine Good.pure H (x := .pointer (some ⟨c, off + n * size, none⟩)) ?_ ⟨c, m, hb, rfl⟩
          have h1 : (n : Int) < (len : Int) := by omega
          simp [Instr.indexAt, asIntOf, run_underlying hu, Instr.sureAddr, sizeT_run hs, hlt, addr_add, Result.andThen]
        · trivial
      · trivial
    · trivial
  · trivial

theorem idxRow_good {ty el : TypeId} {size : Nat} {o i : Operand} {y : XOpd} {k : IntKind} {s len : SE} {b off c m cp : Nat} (hi : compO nt i = some y) (hk : opd t y = .int k s) (hb : e.blk b = some (c, m))
    (he : a.eval o = .slice (some ⟨c, off, none⟩) (len.ev e) cp) (hlen : len.ev e < half .i64) (hu : P.underlying ty = some (.slice el)) (hs : sizeT P el = some size) :
    Good P R e g W ((do pure (.value (← Instr.indexAt ty (a.eval o) (a.eval i))) : Sem Next).run P W) (idxRow asm size b off k s len g) := by
  unfold idxRow
  cases hc : (kindEq k .i64 && Nat.beq off 0 && belowE asm s len)
  · trivial
  · simp only [Bool.and_eq_true] at hc
    obtain ⟨⟨q1, q2⟩, q3⟩ := hc
    cases kindEq_eq q1
    cases beq_t q2
    have hlt := belowE_sound H q3
    have h1 := H.opd hi
    rw [hk] at h1
    obtain ⟨h1, h2⟩ := h1.int
    have hi' : a.eval i = .int .i64 ((s.ev e : Nat) : Int) := by
      rw [h1, toI_nonneg]
      unfold negN; simp only [sgn, Bool.true_and]; exact ble_f (by omega)
    rw [cond_true, he, hi']
    refine Good.pure H (x := .pointer (some ⟨c, 0 + s.ev e * size, none⟩)) ?_ ⟨c, m, hb, by rw [Nat.zero_add, Nat.add_zero]⟩
    have hlt' : (((s.ev e : Nat) : Int)) < ((len.ev e : Nat) : Int) := by omega
    simp [Instr.indexAt, asIntOf, run_underlying hu, sizeT_run hs, hlt, addr_add, Result.andThen]

theorem s_idxSl {ty el : TypeId} {size : Nat} {o i : Operand} {x y : XOpd} (h : compO nt o = some x) (hi : compO nt i = some y) (hu : P.underlying ty = some (.slice el)) (hs : sizeT P el = some size) :
    Good P R e g W ((do pure (.value (← Instr.indexAt ty (a.eval o) (a.eval i))) : Sem Next).run P W) (o_idxSl asm size x y t g) := by
  have hx := H.opd h
  unfold o_idxSl
  split
  · rename_i b off len cap he
    rw [he] at hx
    have hx' : ∃ c m k, e.blk b = some (c, m) ∧ a.eval o = .slice (some ⟨c, off, none⟩) len k := by
      cases cap with
      | known k => obtain ⟨c, m, h1, h2, h3⟩ := hx; exact ⟨c, m, k, h1, h2⟩
      | room k => obtain ⟨c, m, k, h1, h2, h3⟩ := hx; exact ⟨c, m, k, h1, h2⟩
    obtain ⟨c, m, cp, hb, he⟩ := hx'
    split
    · rename_i k s hk
      split
      · rename_i n hd
        cases hc : (Nat.ble len n || negN k n)
        · simp only [Bool.or_eq_false_iff] at hc
          have hlt := ble_lt hc.1
          have hi' := idx_run H hi hk hd hc.2
          rw [cond_false, he, hi']
          refine Good.pure H (x := .pointer (some ⟨c, off + n * size, none⟩)) ?_ ⟨c, m, hb, rfl⟩
          simp [Instr.indexAt, asIntOf, run_underlying hu, sizeT_run hs, hlt, addr_add, Result.andThen]
        · trivial
      · have hlen : len < half .i64 := by
          cases cap with
          | known k => obtain ⟨c, m, h1, h2, h3, h4⟩ := hx; exact Nat.lt_of_le_of_lt h3 h4
          | room k => obtain ⟨c, m, k, h1, h2, h3, h4⟩ := hx; exact h3
        exact idxRow_good H hi hk hb he hlen hu hs
    · trivial
  · rename_i b off len cap hne he
    rw [he] at hx
    have hx' : ∃ c m k, e.blk b = some (c, m) ∧ a.eval o = .slice (some ⟨c, off, none⟩) (len.ev e) k ∧ len.ev e < half .i64 := by
      cases cap with
      | known k => obtain ⟨c, m, h1, h2, h3, h4⟩ := hx; exact ⟨c, m, k, h1, h2, Nat.lt_of_le_of_lt h3 h4⟩
      | room k => obtain ⟨c, m, k, h1, h2, h3, h4⟩ := hx; exact ⟨c, m, k, h1, h2, h3⟩
    obtain ⟨c, m, cp, hb, he, hlen⟩ := hx'
    split
    · rename_i k s hk
      exact idxRow_good H hi hk hb he hlen hu hs
    · trivial
  · trivial

theorem s_index {ty el : TypeId} {len size : Nat} {n : Option Nat} {o i : Operand} {x y : XOpd} (h : compO nt o = some x) (hi : compO nt i = some y) (hu : P.underlying ty = some (.array len el)) (hs : sizeT P el = some size)
    (hn : aggN P el = some n) : Good P R e g W ((do pure (.value (← Instr.index ty (a.eval o) (a.eval i))) : Sem Next).run P W) (o_index asm len size n x y t g) := by
  have hx := H.opd h
  unfold o_index
  split
  · rename_i cs he
    rw [he] at hx
    obtain ⟨xs, he, hv⟩ := hx
    split
    · rename_i k s hk
      split
      · rename_i j hd
        cases hc : (Nat.ble len j || negN k j)
        · simp only [Bool.or_eq_false_iff] at hc
          have hlt := ble_lt hc.1
          have hi' := idx_run H hi hk hd hc.2
          rw [cond_false, he, hi']
          have := s_part H (off := j * size) hn hv
          simpa [Instr.index, asIntOf, run_underlying hu, sizeT_run hs, hlt, Result.andThen] using this
        · trivial
      · trivial
    · trivial
  · trivial

theorem s_extract {o : Operand} {x : XOpd} {i : Nat} (h : compO nt o = some x) : Good P R e g W ((do pure (.value (← Instr.extract (a.eval o) i)) : Sem Next).run P W) (o_extract x i t g) := by
  have hx := H.opd h
  unfold o_extract
  split
  · rename_i vs he
    rw [he] at hx
    obtain ⟨xs, he, hv⟩ := hx
    split
    · rename_i v hl
      rw [lget_eq] at hl
      obtain ⟨y, h3, h4⟩ := hv.get hl
      refine Good.pure H (x := y) ?_ h4
      have h5 : xs[i]? = some y := by simpa using h3
      simp [Instr.extract, he, h5, Result.andThen]
    · trivial
  · trivial

theorem s_mkIface {ty : TypeId} {d : TypeDesc} {o : Operand} {x : XOpd} (h : compO nt o = some x) (hu : P.underlying ty = some d) (hd : ∀ ms, d ≠ .interface ms) :
    Good P R e g W ((do pure (.value (← Instr.makeInterface ty (a.eval o))) : Sem Next).run P W) (o_mkIface ty x t g) := by
  refine Good.pure H (x := .iface ty (a.eval o)) ?_ ⟨_, rfl, H.opd h⟩
  cases d <;> first | (exact absurd rfl (hd _)) | simp [Instr.makeInterface, run_underlying hu, Result.andThen]

theorem s_mkFunc {f : FuncId} {as bs : Array Operand} {xs ys : List XOpd} (ha : compOs nt as = some xs) (hb : compOs nt bs = some ys) :
    Good P R e g W ((do pure (.value (← Instr.makeFunc (.func f) (as.map a.eval) (bs.map a.eval))) : Sem Next).run P W) (o_mkFunc f xs ys t g) :=
  Good.pure H (x := .func (.func f) (as.map a.eval) (bs.map a.eval)) (by simp [Instr.makeFunc, Result.andThen]) ⟨_, _, rfl, H.opds ha, H.opds hb⟩

theorem s_mkMap {ty : TypeId} : Good P R e g W ((do pure (.value (← Instr.makeMap ty none)) : Sem Next).run P W) (o_mkMap t g) := by
  refine Good.alloc H (n := 0) (x := .map (some W.heap.size)) (ob := .map #[] 0) (by simp [Instr.makeMap, Result.andThen]) (fun e' _ => trivial) (fun e' _ hb => ⟨_, _, hb, rfl⟩)

theorem s_mkChan {ty el : TypeId} {i : TypeInfo} {dir : ChanDir} {o : Operand} {x : XOpd} (h : compO nt o = some x) (hu : P.underlying ty = some (.chan dir el)) (hi : P.info? el = some i) (hb : i.bytes ≤ 1048576) :
    Good P R e g W ((do pure (.value (← Instr.makeChan ty (a.eval o))) : Sem Next).run P W) (o_mkChan x t g) := by
  have hx := H.opd h
  unfold o_mkChan
  split
  · rename_i k n he
    rw [he] at hx
    obtain ⟨h1, h2⟩ := hx.int
    simp only [SE.ev] at h1
    cases hc : (negN k n || Nat.ble 65536 n)
    · simp only [Bool.or_eq_false_iff] at hc
      have hlt := ble_lt hc.2
      rw [toI_nonneg hc.1] at h1
      rw [cond_false, h1]
      refine Good.alloc H (n := 0) (x := .chan (some W.heap.size)) (ob := .chan n #[] false 0 0 false) ?_ (fun e' _ => ⟨rfl, rfl, rfl, trivial⟩) (fun e' _ hb => ⟨_, _, hb, rfl⟩)
      have q0 : i.bytes * n ≤ 68719476736 := Nat.mul_le_mul hb (Nat.le_of_lt hlt)
      have q : (i.bytes : Int) * (n : Int) ≤ 68719476736 := by
        rw [← Int.natCast_mul]; omega
      have q2 : ¬ (9223372036854775807 < (n : Int)) := by omega
      have q3 : ¬ ((281474976710544 : Int) < (i.bytes : Int) * (n : Int)) := by omega
      have q4 : ¬ ((n : Int) < 0) := by omega
      have q5 : ¬ ((n : Int) < 0 ∨ (n : Int) > IntKind.i64.max ∨ (i.bytes : Int) * (n : Int) > 2 ^ 48 - 112) := by
        rw [show IntKind.i64.max = 9223372036854775807 by decide, show (2 : Int) ^ 48 - 112 = 281474976710544 by decide]
        rintro (h | h | h)
        · exact q4 h
        · exact q2 h
        · exact q3 h
      simp only [Instr.makeChan, asInt, asIntOf, Sem.run_bind, Sem.run_pure, run_underlying hu, info_run hi, Result.andThen, if_neg q5, run_newObj]
      rfl
    · trivial
  · trivial
end
end Go.Sx
/-
  The operations that lay rows; slices; comparing.
-/
namespace Go.Sx
open Go

variable {P : Program} {R : Nat → Prop} {e : Env} {g : G} {W : World} {asm : Asm} {t : Tr AV} {a : Act} {nt : Nat}

/-! ### Rows -/
theorem VRs.of_get : ∀ {as : List AV} {xs : List Value}, as.length = xs.length → (∀ (i : Nat) (a : AV) (x : Value), as[i]? = some a → xs[i]? = some x → VR e a x) → VRs e as xs
  | [], [], _, _ => trivial
  | a :: as, x :: xs, h, k => ⟨k 0 a x rfl rfl, VRs.of_get (by simpa using h) fun i b y hb hy => k (i + 1) b y (by simpa using hb) (by simpa using hy)⟩
  | [], _ :: _, h, _ => by simp at h
  | _ :: _, [], h, _ => by simp at h

theorem setAll (l : List Value) : ∀ (arr : Array Value) (off j : Nat), off + j + l.length ≤ arr.size →
    ((l.zipIdx j).foldl (fun cs (p : Value × Nat) => cs.setIfInBounds (off + p.2) p.1) arr).toList = arr.toList.take (off + j) ++ (l ++ arr.toList.drop (off + j + l.length)) := by
  induction l with
  | nil => intro arr off j h; simp
  | cons x l ih =>
    intro arr off j h
    simp only [List.length_cons] at h
    rw [List.zipIdx_cons, List.foldl_cons]
    have := ih (arr.setIfInBounds (off + j) x) off (j + 1) (by simp; omega)
    rw [this]
    have hlt : off + j < arr.toList.length := by simp; omega
    simp only [Array.toList_setIfInBounds]
    rw [List.drop_set_of_lt (by omega), show off + (j + 1) = (off + j) + 1 by omega, List.take_add_one, List.take_set_of_le (by omega)]
    simp only [List.getElem?_set, if_pos hlt, if_true]
    simp [show off + j + 1 + l.length = off + j + (l.length + 1) by omega]

inductive All2 {α β : Type} (R : α → β → Prop) : List α → List β → Prop
  | nil : All2 R [] []
  | cons {a : α} {b : β} {l : List α} {r : List β} : R a b → All2 R l r → All2 R (a :: l) (b :: r)
/-- A part of a row. -/
theorem fill_one {place : Nat → Option (Nat × Nat)} {arr : Array Value} {i off s : Nat} {v : Value} {rest : List (Nat × Value)} {cs vs : List AV} (hp : place i = some (off, s))
    (hcs : VRs e cs arr.toList) (hv : VRs e vs v.cells.toList) (h1 : vs.length = s) (h2 : off + vs.length ≤ cs.length) :
    ∃ arr', Instr.fill place arr ((i, v) :: rest) = Instr.fill place arr' rest ∧ VRs e (storeL cs vs off) arr'.toList := by
  have e1 : vs.length = v.cells.size := by have := hv.length; simpa using this
  have e2 : cs.length = arr.size := by have := hcs.length; simpa using this
  refine ⟨v.cells.zipIdx.foldl (fun cs (p : Value × Nat) => cs.setIfInBounds (off + p.2) p.1) arr, ?_, ?_⟩
  · rw [Instr.fill, hp]
    simp only
    rw [if_neg (by simp; omega)]
  · rw [← Array.foldl_toList, Array.toList_zipIdx, setAll v.cells.toList arr off 0 (by simp; omega), storeL_eq]
    refine (hcs.take off).append (hv.append ?_)
    have := hcs.drop (off + vs.length)
    simpa [e1] using this

theorem fill_sound {place : Nat → Option (Nat × Nat)} (ps : List (Nat × Nat × XOpd)) : ∀ (parts : List (Nat × Value)) (cs l : List AV) (arr : Array Value),
    All2 (fun (p : Nat × Nat × XOpd) (q : Nat × Value) => place q.1 = some (p.1, p.2.1) ∧ VR e (opd t p.2.2) q.2) ps parts →
    VRs e cs arr.toList → fillAt t ps cs = some l → ∃ arr', Instr.fill place arr parts = some arr' ∧ VRs e l arr'.toList := by
  induction ps with
  | nil =>
    intro parts cs l arr hf hv h
    cases hf
    cases h
    exact ⟨arr, rfl, hv⟩
  | cons p ps ih =>
    intro parts cs l arr hf hv h
    cases hf with
    | cons hq hr =>
      rename_i q qs
      have h' : (match cellsOf (opd t p.2.2) with
        | some vs => cond (Nat.beq (llen vs) p.2.1 && Nat.ble (p.1 + llen vs) (llen cs)) (fillAt t ps (storeL cs vs p.1)) none
        | none => none) = some l := h
      cases hc : cellsOf (opd t p.2.2) with
      | none => rw [hc] at h'; cases h'
      | some vs =>
        rw [hc] at h'
        simp only at h'
        cases hcond : (Nat.beq (llen vs) p.2.1 && Nat.ble (p.1 + llen vs) (llen cs))
        · rw [hcond] at h'; cases h'
        · rw [hcond] at h'
          simp only [Bool.and_eq_true] at hcond
          have q1 := beq_t hcond.1
          have q2 := ble_le hcond.2
          rw [llen_eq] at q1 q2
          rw [llen_eq] at q2
          obtain ⟨arr', f1, f2⟩ := fill_one (rest := qs) hq.1 hv (hq.2.cells hc) q1 q2
          obtain ⟨arr'', f3, f4⟩ := ih qs _ l arr' hr f2 h'
          refine ⟨arr'', ?_, f4⟩
          rw [show (q : Nat × Value) = (q.1, q.2) from rfl, f1, f3]

theorem flat_get {α : Type} (z : List α) : ∀ (n i : Nat), i < n * z.length → (List.replicate n z).flatten[i]? = z[i % z.length]?
  | 0, i, h => by simp at h
  | n + 1, i, h => by
    rw [List.replicate_succ, List.flatten_cons, List.getElem?_append]
    split
    · rename_i hlt; rw [Nat.mod_eq_of_lt hlt]
    · rename_i hge
      have hge : z.length ≤ i := Nat.le_of_not_lt hge
      rw [flat_get z n (i - z.length) (by rw [Nat.succ_mul] at h; omega), Nat.mod_eq_sub_mod hge]
/-- So many times the zero of an element. -/
theorem zeros_sound {z : List AV} {zero : Array Value} {n m : Nat} (hz : VRs e z zero.toList) (hn : n * z.length = m) (h0 : z.length ≠ 0) :
    VRs e (lrep z n) ((Array.range m).map (fun i => zero[i % zero.size]!)).toList := by
  have hl : z.length = zero.size := by have := hz.length; simpa using this
  rw [lrep_eq]
  refine VRs.of_get (by simp [List.length_flatten, hn]) fun i b x hb hx => ?_
  have hi : i < m := by
    have := (List.getElem?_eq_some_iff.1 hx).1
    simpa using this
  rw [flat_get z n i (by omega)] at hb
  obtain ⟨y, hy, hv⟩ := hz.get hb
  have hlt : i % zero.size < zero.size := Nat.mod_lt _ (by omega)
  simp [hi] at hx
  rw [hl] at hy
  rw [Array.getElem?_toList] at hy
  rw [getElem!_pos zero _ hlt] at hx
  rw [Array.getElem?_eq_getElem hlt] at hy
  cases hy
  rw [← hx]; exact hv

theorem run_mapM_list {α β : Type} {f : α → Sem β} {h : α → β} {W : World} : ∀ (l : List α), (∀ x ∈ l, (f x).run P W = .ok (h x) W) → (l.mapM f).run P W = .ok (l.map h) W
  | [], _ => by simp
  | x :: l, hx => by
    rw [List.mapM_cons]
    simp [hx x (by simp), run_mapM_list l (fun y hy => hx y (by simp [hy])), Result.andThen]
theorem run_mapM_array {α β : Type} {f : α → Sem β} {h : α → β} {W : World} (l : Array α) (hx : ∀ x ∈ l.toList, (f x).run P W = .ok (h x) W) : (l.mapM f).run P W = .ok (l.map h) W := by
  rw [Array.mapM_eq_mapM_toList]
  simp [run_mapM_list _ hx, Result.andThen]
  exact Array.toList_inj.1 (by simp)

section
variable (H : Here P R e g W asm t a nt)
include H

theorem partsOf_sound {ty : TypeId} {fs : Array Field} (hu : P.underlying ty = some (.struct fs)) : ∀ (l : List (Nat × Operand)) (r : List (Nat × Nat × XOpd)),
    optMap (fun p => match fieldOf P ty p.1 with
    | some f => match sizeT P f.type, compO nt p.2 with
      | some s, some x => some (f.offset, s, x)
      | _, _ => none
    | none => none) l = some r →
    All2 (fun (p : Nat × Nat × XOpd) (q : Nat × Value) => (fs.map fun f => (f.offset, (sizeT P f.type).getD 0))[q.1]? = some (p.1, p.2.1) ∧ VR e (opd t p.2.2) q.2) r (l.map fun (i, x) => (i, a.eval x))
  | [], r, h => by rw [optMap_nil h]; exact .nil
  | p :: l, r, h => by
    obtain ⟨b, s, h1, h2, rfl⟩ := optMap_cons h
    refine .cons ?_ (partsOf_sound hu l s h2)
    cases hf : fieldOf P ty p.1 with
    | none => rw [hf] at h1; cases h1
    | some f =>
      rw [hf] at h1
      simp only at h1
      obtain ⟨fs', hu', hfl⟩ := fieldOf_some hf
      rw [hu] at hu'; cases hu'
      split at h1
      · rename_i s' x hs hx
        cases h1
        exact ⟨by simp [hfl, hs], H.opd hx⟩
      · cases h1
theorem partsAt_sound {s : Nat} : ∀ (l : List (Nat × Operand)) (r : List (Nat × Nat × XOpd)),
    optMap (fun (p : Nat × Operand) => match compO nt p.2 with
    | some x => some (p.1 * s, s, x)
    | none => none) l = some r →
    All2 (fun (p : Nat × Nat × XOpd) (q : Nat × Value) => (fun i => some (i * s, s)) q.1 = some (p.1, p.2.1) ∧ VR e (opd t p.2.2) q.2) r (l.map fun (i, x) => (i, a.eval x))
  | [], r, h => by rw [optMap_nil h]; exact .nil
  | p :: l, r, h => by
    obtain ⟨b, s, h1, h2, rfl⟩ := optMap_cons h
    refine .cons ?_ (partsAt_sound l s h2)
    split at h1
    · rename_i x hx
      cases h1
      exact ⟨rfl, H.opd hx⟩
    · cases h1

theorem s_buildS {ty : TypeId} {fs : Array Field} {z : List AV} {parts : Array (Nat × Operand)} {ps : List (Nat × Nat × XOpd)} (hz : zeroC P ty = some z) (hu : P.underlying ty = some (.struct fs))
    (ha : fs.toList.all (fun f => (sizeT P f.type).isSome) = true) (hp : partsOf P nt ty parts = some ps) :
    Good P R e g W ((do pure (.value (← Instr.build ty (parts.map fun (i, x) => (i, a.eval x)))) : Sem Next).run P W) (o_build z ps t g) := by
  obtain ⟨x, hx, hv⟩ := zeroC_run hz e W
  unfold o_build
  split
  · rename_i l hl
    obtain ⟨arr', f1, f2⟩ := fill_sound ps _ z l x.cells (partsOf_sound H hu parts.toList ps hp) hv hl
    refine Good.pure H (x := .agg arr') ?_ ⟨_, rfl, f2⟩
    have hm := run_mapM_array (P := P) (W := W) (f := fun f => do pure (f.offset, ← sizeOf f.type)) (h := fun f => (f.offset, (sizeT P f.type).getD 0)) fs (fun f hf => by
      have := List.all_eq_true.1 ha f hf
      obtain ⟨s, hs⟩ := Option.isSome_iff_exists.1 this
      simp [sizeT_run hs, hs, Result.andThen])
    simp only [Instr.build, Sem.run_bind, hx, run_underlying hu, hm, Result.andThen, Array.toList_map]
    rw [f1]
    rfl
  · trivial

theorem s_buildA {ty el : TypeId} {n s : Nat} {z : List AV} {parts : Array (Nat × Operand)} {ps : List (Nat × Nat × XOpd)} (hz : zeroC P ty = some z) (hu : P.underlying ty = some (.array n el))
    (hs : sizeT P el = some s) (hp : partsAt nt s parts = some ps) :
    Good P R e g W ((do pure (.value (← Instr.build ty (parts.map fun (i, x) => (i, a.eval x)))) : Sem Next).run P W) (o_build z ps t g) := by
  obtain ⟨x, hx, hv⟩ := zeroC_run hz e W
  unfold o_build
  split
  · rename_i l hl
    obtain ⟨arr', f1, f2⟩ := fill_sound (place := fun i => some (i * s, s)) ps _ z l x.cells (partsAt_sound H parts.toList ps hp) hv hl
    refine Good.pure H (x := .agg arr') ?_ ⟨_, rfl, f2⟩
    simp only [Instr.build, Sem.run_bind, hx, run_underlying hu, sizeT_run hs, Result.andThen, Array.toList_map]
    rw [f1]
    rfl
  · trivial

theorem s_buildSlice {ty el : TypeId} {n s : Nat} {z : List AV} {parts : Array (Nat × Operand)} {ps : List (Nat × Nat × XOpd)} (hz : zeroC P el = some z) (hu : P.underlying ty = some (.slice el))
    (hs : sizeT P el = some s) (hp : partsAt nt s parts = some ps) (h1 : n * s ≤ 16777216) (h0 : s ≠ 0) (h2 : z.length = s) :
    Good P R e g W ((do pure (.value (← Instr.buildSlice ty n (parts.map fun (i, x) => (i, a.eval x)))) : Sem Next).run P W) (o_buildSlice z n ps t g) := by
  obtain ⟨x, hx, hv⟩ := zeroC_run hz e W
  unfold o_buildSlice
  split
  · rename_i l hl
    have key : ∃ zero : Array Value, ((n * s = 0 ∧ zero = #[]) ∨ (n * s ≠ 0 ∧ zero = x.cells)) ∧ VRs e (lrep z n) ((Array.range (n * s)).map (fun i => zero[i % zero.size]!)).toList := by
      by_cases hn : n * s = 0
      · have hn0 : n = 0 := by rcases Nat.mul_eq_zero.1 hn with h | h <;> omega
        subst hn0
        refine ⟨#[], .inl ⟨hn, rfl⟩, ?_⟩
        simp [lrep_eq, VRs]
      · exact ⟨x.cells, .inr ⟨hn, rfl⟩, zeros_sound hv (by rw [h2]) (by omega)⟩
    obtain ⟨zero, k1, k2⟩ := key
    obtain ⟨arr', f1, f2⟩ := fill_sound (place := fun i => some (i * s, s)) ps _ (lrep z n) l _ (partsAt_sound H parts.toList ps hp) k2 hl
    have hn24 : n ≤ 16777216 := by
      have : n * 1 ≤ n * s := Nat.mul_le_mul_left n (by omega)
      omega
    refine Good.alloc H (n := arr'.size) (x := .slice (some ⟨W.heap.size, 0, none⟩) n n) (ob := .cells arr' el (0, 0)) ?_ (fun e' l => OR.new (VRs.le l _ _ f2))
      (fun e' _ hb => ⟨_, _, hb, rfl, Nat.le_refl _, by simp [half]; omega⟩)
    simp only [Instr.buildSlice, Sem.run_bind, run_underlying hu, sizeT_run hs, Result.andThen, Array.toList_map]
    rw [if_neg (show ¬ n * s > 2 ^ 24 by omega)]
    rcases k1 with ⟨k1, rfl⟩ | ⟨k1, rfl⟩
    · rw [if_pos k1]
      simp only [Sem.run_pure, Result.andThen, Sem.run_bind]
      rw [f1]
      simp [newRow, Result.andThen]
    · rw [if_neg k1]
      simp only [Sem.run_pure, Result.andThen, Sem.run_bind, hx]
      rw [f1]
      simp [newRow, Result.andThen]
  · trivial

theorem s_mkSlice {ty el : TypeId} {i : TypeInfo} {z : List AV} {l c : Operand} {xl xc : XOpd} (hz : zeroC P el = some z) (hu : P.underlying ty = some (.slice el)) (hi : P.info? el = some i)
    (hl : compO nt l = some xl) (hc : compO nt c = some xc) (h0 : i.size ≠ 0) (h2 : z.length = i.size) :
    Good P R e g W ((do pure (.value (← Instr.makeSlice ty (a.eval l) (a.eval c))) : Sem Next).run P W) (o_mkSlice asm z i.bytes xl xc t g) := by
  obtain ⟨x, hx, hv⟩ := zeroC_run hz e W
  unfold o_mkSlice
  split
  · rename_i kl el' kc ec h3 h4
    split
    · rename_i ln cn d1 d2
      cases hcond : (Nat.ble ln cn && Nat.ble cn 16777216 && Nat.ble (cn * i.bytes) 140737488355328 && !negN kl ln && !negN kc cn)
      · trivial
      · simp only [Bool.and_eq_true, Bool.not_eq_true'] at hcond
        obtain ⟨⟨⟨⟨q1, q2⟩, q3⟩, q4⟩, q5⟩ := hcond
        have q1 := ble_le q1
        have q2 := ble_le q2
        have q3 := ble_le q3
        have el1 := idx_run H hl h3 d1 q4
        have ec1 := idx_run H hc h4 d2 q5
        rw [cond_true, el1, ec1]
        have wl : IntKind.i64.wrap (ln : Int) = (ln : Int) := by
          rw [wrap_nat, Nat.mod_eq_of_lt (by simp [md]; omega)]
          exact toI_nonneg (by simp [negN, sgn, half]; exact ble_f (by omega))
        have wc : IntKind.i64.wrap (cn : Int) = (cn : Int) := by
          rw [wrap_nat, Nat.mod_eq_of_lt (by simp [md]; omega)]
          exact toI_nonneg (by simp [negN, sgn, half]; exact ble_f (by omega))
        have q6 : ((i.bytes : Int) * (cn : Int)) ≤ 140737488355328 := by rw [← Int.natCast_mul, Nat.mul_comm]; omega
        have key : ∃ zero : Array Value, ((cn * i.size = 0 ∧ zero = #[]) ∨ (cn * i.size ≠ 0 ∧ zero = x.cells)) ∧ VRs e (lrep z cn) ((Array.range (cn * i.size)).map (fun i => zero[i % zero.size]!)).toList := by
          by_cases hn : cn * i.size = 0
          · have hn0 : cn = 0 := by rcases Nat.mul_eq_zero.1 hn with h | h <;> omega
            subst hn0
            refine ⟨#[], .inl ⟨hn, rfl⟩, ?_⟩
            simp [lrep_eq, VRs]
          · exact ⟨x.cells, .inr ⟨hn, rfl⟩, zeros_sound hv (by rw [h2]) (by omega)⟩
        obtain ⟨zero, k1, k2⟩ := key
        have hs : sizeT P el = some i.size := by simp [sizeT, hi]
        refine Good.alloc H (n := cn * i.size) (x := .slice (some ⟨W.heap.size, 0, none⟩) ln cn) (ob := .cells ((Array.range (cn * i.size)).map (fun i => zero[i % zero.size]!)) el (0, 0)) ?_
          (fun e' l => by have := OR.new (P := P) (own := true) (tl := true) (ty := el) (VRs.le l.toLw _ _ k2); simpa using this)
          (fun e' _ hb => ⟨_, _, hb, rfl, q1, by simp [half]; omega⟩)
        have b1 : ¬ ((281474976710656 : Int) < (i.bytes : Int) * (cn : Int)) := by omega
        have b2 : ¬ ((cn : Int) < (ln : Int)) := by omega
        have b3 : ¬ ((cn : Int) < 0) := by omega
        have b4 : ¬ ((ln : Int) < 0) := by omega
        simp only [Instr.makeSlice, Sem.run_bind, run_underlying hu, asInt, asIntOf, Sem.run_pure, info_run hi, wl, wc, Result.andThen]
        rw [if_neg (by
          simp only [Bool.or_eq_true, decide_eq_true_eq, not_or]
          exact ⟨⟨⟨b3, by rw [show (2 : Int) ^ 48 = 281474976710656 by decide]; exact b1⟩, b4⟩, b2⟩)]
        simp only [Int.toNat_natCast, run_askRoom, sizeT_run hs, Sem.run_bind, Sem.run_pure, Result.andThen]
        rcases k1 with ⟨k1, rfl⟩ | ⟨k1, rfl⟩
        · rw [if_pos k1]
          simp [newRow, Result.andThen]
        · rw [if_neg k1]
          simp [newRow, hx, Result.andThen]
    · trivial
  · trivial
end
end Go.Sx
/-
  Comparing and reckoning.
-/
namespace Go.Sx
open Go

variable {P : Program} {R : Nat → Prop} {e : Env} {g : G} {W : World} {asm : Asm} {t : Tr AV} {a : Act} {nt : Nat}

theorem int_arith (ty : TypeId) {o : BinOp} {k : IntKind} {x y : Nat} (ho : isArith o = true) (hx : x < md k) (hy : y < md k) (P : Program) (W : World) :
    (binOp o ty (.int k (toI k x)) (.int k (toI k y))).run P W = .ok (.int k (toI k (opN o k x y))) W := by
  cases o <;> simp [isArith] at ho
  · rw [binOp_add]; simp only [Op.intArith, Sem.run_pure, add_toI]; rfl
  · rw [binOp_sub]; simp only [Op.intArith, Sem.run_pure, sub_toI k x y hy]; rfl
  · rw [binOp_mul]; simp only [Op.intArith, Sem.run_pure, mul_toI]; rfl
  · rw [binOp_and]; exact bits_toI .and k (.inl rfl) hx hy
  · rw [binOp_or]; exact bits_toI .or k (.inr (.inl rfl)) hx hy
  · rw [binOp_xor]; exact bits_toI .xor k (.inr (.inr (.inl rfl))) hx hy
  · rw [binOp_andNot]; exact bits_toI .andNot k (.inr (.inr (.inr rfl))) hx hy
theorem int_cmp (ty : TypeId) {o : BinOp} {k : IntKind} {x y : Nat} (ho : isCmp o = true) (hx : x < md k) (hy : y < md k) (P : Program) (W : World) :
    (binOp o ty (.int k (toI k x)) (.int k (toI k y))).run P W = .ok (.bool (cmpN o k x y)) W := by
  rw [← cmp_toI o k ho hx hy (P := P) (w := W)]
  cases o <;> simp [isCmp] at ho <;> simp [binOp]

/-- A reference: nil, or not. -/
inductive RefS : Nat → Bool → Value → Prop
  | p0 : RefS 2 true (.pointer none)
  | p1 (q : Addr) : RefS 2 false (.pointer (some q))
  | s0 : RefS 3 true (.slice none 0 0)
  | s1 (q : Addr) (n c : Nat) : RefS 3 false (.slice (some q) n c)
  | m0 : RefS 4 true (.map none)
  | m1 (r : Nat) : RefS 4 false (.map (some r))
  | f0 : RefS 5 true .nilFunc
  | f1 (f : Fn) (x y : Array Value) : RefS 5 false (.func f x y)
  | i0 : RefS 6 true .nilIface
  | i1 (t : TypeId) (v : Value) : RefS 6 false (.iface t v)
theorem refS {cl : Nat} {v : AV} {x : Value} (h : refC cl v = true) (hv : VR e v x) : RefS cl (isNilV v) x := by
  cases v with
  | ptr0 => cases beq_t h; rw [show x = _ from hv]; exact .p0
  | ptr b o => cases beq_t h; obtain ⟨c, n, _, rfl⟩ := hv; exact .p1 _
  | slice0 => cases beq_t h; rw [show x = _ from hv]; exact .s0
  | emp z => cases beq_t h; obtain ⟨c, n, rfl, _⟩ := hv; exact .s1 ..
  | slice b o n c =>
    cases beq_t h
    cases c with
    | known k => obtain ⟨c, m, _, rfl, _⟩ := hv; exact .s1 ..
    | room k => obtain ⟨c, m, k, _, rfl, _⟩ := hv; exact .s1 ..
  | map0 => cases beq_t h; rw [show x = _ from hv]; exact .m0
  | map r => cases beq_t h; obtain ⟨c, n, _, rfl⟩ := hv; exact .m1 _
  | nilFunc => cases beq_t h; rw [show x = _ from hv]; exact .f0
  | func f a b => cases beq_t h; obtain ⟨c, n, rfl, _⟩ := hv; exact .f1 ..
  | yield l => cases beq_t h; obtain ⟨c, n, _, rfl⟩ := hv; exact .f1 ..
  | nilIface => cases beq_t h; rw [show x = _ from hv]; exact .i0
  | iface ty w => cases beq_t h; obtain ⟨c, rfl, _⟩ := hv; exact .i1 ..
  | _ => cases h
/-- Is a type of that class? -/
inductive TyC (P : Program) (ty : TypeId) (x y : Operand) : Nat → Prop
  | i {k : IntKind} (h : P.underlying ty = some (.int k)) : TyC P ty x y 0
  | b (h : P.underlying ty = some .bool) : TyC P ty x y 1
  | p {el : TypeId} (h : P.underlying ty = some (.pointer el)) : TyC P ty x y 2
  | s {el : TypeId} (h : P.underlying ty = some (.slice el)) : TyC P ty x y 3
  | m {kt el : TypeId} (h : P.underlying ty = some (.map kt el)) : TyC P ty x y 4
  | f {as rs : Array TypeId} {v : Bool} (h : P.underlying ty = some (.func as rs v)) : TyC P ty x y 5
  | n {ms : Array (String × TypeId)} (h : P.underlying ty = some (.interface ms)) (h1 : ms.isEmpty = true ∨ isConst x = true ∨ isConst y = true) : TyC P ty x y 6
  | st {fs : Array Field} {n : Nat} (hn : n = 9 + fs.size) (h : P.underlying ty = some (.struct fs)) (h1 : flatFrom P 0 fs.toList = true) (h2 : P.eqGuardType P.depth ty = false) (h3 : P.stoodInHeld ty = false) : TyC P ty x y n
theorem tyC {ty : TypeId} {x y : Operand} {c : Nat} (h : classOf P ty x y = some c) : TyC P ty x y c := by
  unfold classOf at h
  split at h
  · cases h; exact .i ‹_›
  · cases h; exact .b ‹_›
  · cases h; exact .p ‹_›
  · cases h; exact .s ‹_›
  · cases h; exact .m ‹_›
  · cases h; exact .f ‹_›
  · rename_i ms hu
    cases hc : (ms.isEmpty || isConst x || isConst y)
    · rw [hc] at h; cases h
    · rw [hc] at h; cases h
      simp only [Bool.or_eq_true] at hc
      exact .n hu (by rcases hc with (h | h) | h <;> simp [h])
  · rename_i fs hu
    cases hc : (flatFrom P 0 fs.toList && !P.eqGuardType P.depth ty && !P.stoodInHeld ty)
    · rw [hc] at h; cases h
    · rw [hc] at h; cases h
      simp only [Bool.and_eq_true, Bool.not_eq_true'] at hc
      exact .st rfl hu hc.1.1 hc.1.2 hc.2
  · cases h

theorem refs_equal {ty : TypeId} {x y : Operand} {cl : Nat} {nx ny : Bool} {vx vy : Value} (hc : TyC P ty x y cl) (hx : RefS cl nx vx) (hy : RefS cl ny vy) (hn : (nx || ny) = true) (W : World) :
    (Op.equal ty vx vy).run P W = .ok (nx && ny) W := by
  unfold Op.equal
  rw [show Op.maxDepth = 9999 + 1 from rfl]; generalize 9999 = dep
  cases hx <;> cases hy <;> first
    | (exact absurd hn (by decide))
    | (cases hc <;> first
        | (rename_i hu
           simp [Op.equalIn, run_underlying hu, Result.andThen]; done)
        | (rename_i hu _
           simp [Op.equalIn, run_underlying hu, Result.andThen]; done)
        | (exfalso; omega))
theorem refs_guard {ty : TypeId} {x y : Operand} {cl : Nat} {nx ny : Bool} {vx vy : Value} (op : BinOp) (hc : TyC P ty x y cl) (hx : RefS cl nx vx) (hy : RefS cl ny vy) (W : World) :
    (eqGuard op ty x y vx vy).run P W = .ok () W := by
  cases hx <;> first
    | (simp only [eqGuard_at_pointer, eqGuard_at_slice, eqGuard_at_map, eqGuard_at_nilFunc, eqGuard_at_func, eqGuard_at_iface, Sem.run_pure])
    | skip
  cases hy with
  | i1 t v => rw [eqGuard_nil_iface]; rfl
  | i0 =>
    cases hc with
    | st hn => exfalso; omega
    | n hu h1 =>
      rename_i ms
      have hg : ms.isEmpty = true → (Op.eqGuardIn Op.maxDepth ty .nilIface .nilIface).run P W = .ok false W := fun h1 => by
        rw [show Op.maxDepth = 9999 + 1 from rfl]; generalize 9999 = dep
        simp only [Op.eqGuardIn, Sem.run_bind, run_underlying hu, Result.andThen, Sem.run_pure, h1]
        rfl
      have hq : (eqGuard .eql ty x y .nilIface .nilIface).run P W = .ok () W ∧ (eqGuard .neq ty x y .nilIface .nilIface).run P W = .ok () W := by
        cases x with
        | const c => exact ⟨by rw [eqGuard_nil_constL]; rfl, by rw [eqGuard_nil_constL]; rfl⟩
        | _ =>
          cases y with
          | const c => exact ⟨by rw [eqGuard_nil_constR]; rfl, by rw [eqGuard_nil_constR]; rfl⟩
          | _ =>
            have hm : ms.isEmpty = true := by rcases h1 with h | h | h <;> first | exact h | cases h
            have := hg hm
            constructor <;> simp [eqGuard, this, Result.andThen]
      cases op <;> first | rfl | exact hq.1 | exact hq.2
theorem refs_bin {ty : TypeId} {x y : Operand} {cl : Nat} {nx ny : Bool} {vx vy : Value} (hc : TyC P ty x y cl) (hx : RefS cl nx vx) (hy : RefS cl ny vy) (hn : (nx || ny) = true) (W : World) :
    (binOp .eql ty vx vy).run P W = .ok (.bool (nx && ny)) W ∧ (binOp .neq ty vx vy).run P W = .ok (.bool (!(nx && ny))) W := by
  have h := refs_equal hc hx hy hn W
  have e1 : binOp .eql ty vx vy = (do pure (.bool (← Op.equal ty vx vy))) := by cases hx <;> cases hy <;> rfl
  have e2 : binOp .neq ty vx vy = (do pure (.bool (!(← Op.equal ty vx vy)))) := by cases hx <;> cases hy <;> rfl
  rw [e1, e2]
  simp [h, Result.andThen]

theorem bool_bin {ty : TypeId} {b c : Bool} (hu : P.underlying ty = some .bool) (W : World) :
    (binOp .eql ty (.bool b) (.bool c)).run P W = .ok (.bool (b == c)) W ∧ (binOp .neq ty (.bool b) (.bool c)).run P W = .ok (.bool (!(b == c))) W := by
  have h : (Op.equal ty (.bool b) (.bool c)).run P W = .ok (b == c) W := by
    unfold Op.equal
    rw [show Op.maxDepth = 9999 + 1 from rfl]; generalize 9999 = dep
    simp [Op.equalIn, run_underlying hu, Result.andThen]
  have e1 : binOp .eql ty (.bool b) (.bool c) = (do pure (.bool (← Op.equal ty (.bool b) (.bool c)))) := rfl
  have e2 : binOp .neq ty (.bool b) (.bool c) = (do pure (.bool (!(← Op.equal ty (.bool b) (.bool c))))) := rfl
  rw [e1, e2]
  simp [h, Result.andThen]

/-! ### Structs of numbers -/
section
variable (H : Here P R e g W asm t a nt)
include H
theorem eqV_sound {u v : AV} {x y : Value} {r : Bool} (hu : VR e u x) (hv : VR e v y) (h : eqV asm u v = some r) :
    ∃ k m n, x = .int k m ∧ y = .int k n ∧ (m == n) = r := by
  unfold eqV at h
  split at h
  · rename_i k c l d
    cases hk : kindEq k l
    · rw [hk] at h; cases h
    · rw [hk] at h
      cases kindEq_eq hk
      have hd := decB_sound H h
      rw [mkCmp_ev] at hd
      obtain ⟨h1, h2⟩ := hu.int
      obtain ⟨h3, h4⟩ := hv.int
      refine ⟨k, _, _, h1, h3, ?_⟩
      have := cmp_toI .eql k rfl h2 h4 (P := P) (w := W)
      rw [hd] at this
      simpa [Op.intCmp] using this
  · cases h
theorem eqL_sound : ∀ {us vs : List AV} {xs ys : List Value} {r : Bool}, VRs e us xs → VRs e vs ys → eqL asm us vs = some r →
    ∃ (d : List Bool), d.length ≤ xs.length ∧ (∀ (i : Nat) b, d[i]? = some b → ∃ k m n, xs[i]? = some (.int k m) ∧ ys[i]? = some (.int k n) ∧ (m == n) = b) ∧
      (r = true → d.length = xs.length ∧ ∀ b ∈ d, b = true) ∧ (r = false → ∃ d', d = d' ++ [false] ∧ ∀ b ∈ d', b = true)
  | [], [], [], [], r, _, _, h => by
    cases h
    exact ⟨[], by simp, by simp, by simp, by simp⟩
  | u :: us, v :: vs, x :: xs, y :: ys, r, hu, hv, h => by
    have h' : (match eqV asm u v with
        | some true => eqL asm us vs
        | some false => some false
        | none => none) = some r := h
    cases hq : eqV asm u v with
    | none => rw [hq] at h'; cases h'
    | some b =>
      rw [hq] at h'
      obtain ⟨k, m, n, e1, e2, e3⟩ := eqV_sound H hu.1 hv.1 hq
      cases b with
      | false =>
        cases h'
        refine ⟨[false], by simp, ?_, by simp, fun _ => ⟨[], rfl, by simp⟩⟩
        intro i b hb
        cases i with
        | zero => cases hb; exact ⟨k, m, n, by simp [e1], by simp [e2], e3⟩
        | succ i => simp at hb
      | true =>
        obtain ⟨d, d1, d2, d3, d4⟩ := eqL_sound hu.2 hv.2 h'
        refine ⟨true :: d, by simp [d1], ?_, ?_, ?_⟩
        · intro i b hb
          cases i with
          | zero => cases hb; exact ⟨k, m, n, by simp [e1], by simp [e2], e3⟩
          | succ i => simpa using d2 i b (by simpa using hb)
        · intro hr; obtain ⟨q1, q2⟩ := d3 hr; exact ⟨by simp [q1], by simpa using q2⟩
        · intro hr; obtain ⟨d', q1, q2⟩ := d4 hr; exact ⟨true :: d', by simp [q1], by simpa using q2⟩
  | [], [], _ :: _, _, _, hu, _, _ => hu.elim
  | [], [], [], _ :: _, _, _, hv, _ => hv.elim
  | [], _ :: _, _, _, _, _, _, h => by cases h
  | _ :: _, [], _, _, _, _, _, h => by cases h
  | _ :: _, _ :: _, [], _, _, hu, _, _ => hu.elim
  | _ :: _, _ :: _, _ :: _, [], _, _, hv, _ => hv.elim
end

def flatBody (dep : Nat) (xs ys : Array Value) (f : Field) (_s : Option Bool × Unit) : Sem (ForInStep (Option Bool × Unit)) :=
  if f.name ≠ "_" then do
    let a ← part f.type xs f.offset
    let b ← part f.type ys f.offset
    let r ← Op.equalIn dep f.type a b
    if (!r) = true then pure (ForInStep.done (some false, ())) else pure (ForInStep.yield (none, ()))
  else pure (ForInStep.yield (none, ()))
theorem loop_flat (dep : Nat) (xs ys : Array Value) (W : World) : ∀ (l : List Field) (i : Nat) (d : List Bool), flatFrom P i l = true →
    (∀ (j : Nat) b, d[j]? = some b → ∃ k m n, xs[i + j]? = some (.int k m) ∧ ys[i + j]? = some (.int k n) ∧ (m == n) = b) →
    ((d.length = l.length ∧ ∀ b ∈ d, b = true) → (forIn l ((none : Option Bool), ()) (flatBody (dep + 1) xs ys)).run P W = .ok (none, ()) W) ∧
    ((∃ d', d = d' ++ [false] ∧ ∀ b ∈ d', b = true) → d.length ≤ l.length → (forIn l ((none : Option Bool), ()) (flatBody (dep + 1) xs ys)).run P W = .ok (some false, ()) W) := by
  intro l
  induction l with
  | nil =>
    intro i d _ _
    refine ⟨fun _ => rfl, fun ⟨d', h, _⟩ hl => ?_⟩
    rw [h] at hl; simp at hl
  | cons f l ih =>
    intro i d hf hd
    have hf' : ((f.name != "_") && Nat.beq f.offset i && (match P.underlying f.type with | some (.int _) => true | _ => false) && (match sizeT P f.type, aggN P f.type with | some 1, some none => true | _, _ => false) && flatFrom P (i + 1) l) = true := hf
    simp only [Bool.and_eq_true] at hf'
    obtain ⟨⟨⟨⟨q1, q2⟩, q3⟩, q4⟩, q5⟩ := hf'
    have hname : f.name ≠ "_" := by simpa using q1
    have hoff : f.offset = i := beq_t q2
    obtain ⟨k0, hu⟩ : ∃ k, P.underlying f.type = some (.int k) := by
      split at q3
      · rename_i k hk; exact ⟨k, hk⟩
      · cases q3
    have hagg : isAggT P f.type = some false := by simp [isAggT, hu]
    cases d with
    | nil => exact ⟨fun h => by simp at h, fun ⟨d', h, _⟩ _ => by simp at h⟩
    | cons b d =>
      obtain ⟨k, m, n, e1, e2, e3⟩ := hd 0 b rfl
      have hpx : (part f.type xs f.offset).run P W = .ok (.int k m) W := by
        have e1' : xs[i]? = some (.int k m) := e1
        rw [hoff]; simp [part, isAggT_run hagg, e1', Result.andThen]
      have hpy : (part f.type ys f.offset).run P W = .ok (.int k n) W := by
        have e2' : ys[i]? = some (.int k n) := e2
        rw [hoff]; simp [part, isAggT_run hagg, e2', Result.andThen]
      have heq : (Op.equalIn (dep + 1) f.type (.int k m) (.int k n)).run P W = .ok b W := by
        simp [Op.equalIn, run_underlying hu, Result.andThen, e3]
      have hbody : (flatBody (dep + 1) xs ys f (none, ())).run P W = .ok (if (!b) = true then ForInStep.done (some false, ()) else ForInStep.yield (none, ())) W := by
        unfold flatBody
        rw [if_pos hname]
        simp only [Sem.run_bind, hpx, hpy, heq, Result.andThen]
        cases b <;> simp
      obtain ⟨i1, i2⟩ := ih (i + 1) d q5 (fun j b hb => by
        have := hd (j + 1) b (by simpa using hb)
        rwa [show i + (j + 1) = i + 1 + j by omega] at this)
      refine ⟨fun ⟨h1, h2⟩ => ?_, fun ⟨d', h1, h2⟩ hl => ?_⟩
      · have hb : b = true := h2 b (by simp)
        subst hb
        rw [List.forIn_cons]
        simp only [Sem.run_bind, hbody, Result.andThen]
        exact i1 ⟨by simpa using h1, fun b hb => h2 b (by simp [hb])⟩
      · rw [List.forIn_cons]
        simp only [Sem.run_bind, hbody, Result.andThen]
        cases b with
        | false => simp
        | true =>
          cases d' with
          | nil => simp at h1
          | cons c d' =>
            simp only [List.cons_append, List.cons.injEq] at h1
            exact i2 ⟨d', h1.2, fun b hb => h2 b (by simp [hb])⟩ (by simpa using hl)

theorem struct_equal {ty : TypeId} {fs : Array Field} {xs ys : Array Value} {d : List Bool} {r : Bool} (hu : P.underlying ty = some (.struct fs)) (hf : flatFrom P 0 fs.toList = true) (h3 : P.stoodInHeld ty = false)
    (hx : xs.size = fs.size) (h1 : d.length ≤ xs.toList.length)
    (h2 : ∀ (i : Nat) b, d[i]? = some b → ∃ k m n, xs.toList[i]? = some (.int k m) ∧ ys.toList[i]? = some (.int k n) ∧ (m == n) = b)
    (ht : r = true → d.length = xs.toList.length ∧ ∀ b ∈ d, b = true) (hfa : r = false → ∃ d', d = d' ++ [false] ∧ ∀ b ∈ d', b = true) (W : World) :
    (Op.equal ty (.agg xs) (.agg ys)).run P W = .ok r W := by
  unfold Op.equal
  rw [show Op.maxDepth = (9998 + 1) + 1 from rfl]; generalize 9998 = dep
  rw [Op.equalIn]
  simp only [Sem.run_bind, run_underlying hu, Result.andThen, run_program, h3]
  simp only [Bool.false_eq_true, if_false]
  rw [← Array.forIn_toList]
  obtain ⟨k1, k2⟩ := loop_flat (P := P) dep xs ys W fs.toList 0 d hf (fun j b hb => by
    obtain ⟨k, m, n, e1, e2, e3⟩ := h2 j b hb
    exact ⟨k, m, n, by simpa using e1, by simpa using e2, e3⟩)
  cases r with
  | true =>
    obtain ⟨q1, q2⟩ := ht rfl
    have := k1 ⟨by simpa [hx] using q1, q2⟩
    rw [Sem.run_bind]
    unfold flatBody at this
    rw [this]
    rfl
  | false =>
    have := k2 (hfa rfl) (by simpa [hx] using h1)
    rw [Sem.run_bind]
    unfold flatBody at this
    rw [this]
    rfl

section
variable (H : Here P R e g W asm t a nt)
include H
theorem vr_normE {k : IntKind} {s : SE} {n : Nat} (h1 : s.ev e = n) (h2 : n < md k) : VR e (.int k (normE asm k s)) (.int k (toI k n)) := by
  subst h1
  exact ⟨by rw [normE_sound H h2], by rw [normE_sound H h2]; exact h2⟩
theorem s_bin {op : BinOp} {ty : TypeId} {x y : Operand} {xx xy : XOpd} {cl : Nat} (hx : compO nt x = some xx) (hy : compO nt y = some xy) (hc : classOf P ty x y = some cl) :
    Good P R e g W ((do pure (.value (← (do eqGuard op ty x y (a.eval x) (a.eval y); binOp op ty (a.eval x) (a.eval y) : Sem Value))) : Sem Next).run P W) (o_bin asm cl op xx xy t g) := by
  have vx := H.opd hx
  have vy := H.opd hy
  have tc := tyC hc
  have fin : ∀ {x' : Value} {v : AV}, (eqGuard op ty x y (a.eval x) (a.eval y)).run P W = .ok () W → (binOp op ty (a.eval x) (a.eval y)).run P W = .ok x' W → VR e v x' →
      Good P R e g W ((do pure (.value (← (do eqGuard op ty x y (a.eval x) (a.eval y); binOp op ty (a.eval x) (a.eval y) : Sem Value))) : Sem Next).run P W) (.val v g) := by
    intro x' v h1 h2 hv
    refine Good.pure H (x := x') ?_ hv
    simp [h1, h2, Result.andThen]
  unfold o_bin binV
  split
  · rename_i k p k2 q e1 e2
    rw [e1] at vx; rw [e2] at vy
    obtain ⟨h1, h2⟩ := vx.int
    obtain ⟨h3, h4⟩ := vy.int
    have hg : (eqGuard op ty x y (a.eval x) (a.eval y)).run P W = .ok () W := by rw [h1, eqGuard_at_int]; rfl
    cases ha : isArith op
    · rw [cond_false]
      cases hcm : isCmp op
      · rw [cond_false]
        split
        · rename_i n
          split
          · cases hn : negN k2 n
            · rw [cond_false]
              refine fin (x' := .int k (toI k (opN .shl k (p.ev e) n))) hg ?_ ?_
              · rw [h1, h3, binOp_shl]; exact shl_toI k k2 h2 hn
              · exact vr_normE H (mkBin_ev ..) (opN_lt _ _ h2 (fun h => by cases h))
            · trivial
          · cases hn : negN k2 n
            · rw [cond_false]
              refine fin (x' := .int k (toI k (opN .shr k (p.ev e) n))) hg ?_ ?_
              · rw [h1, h3, binOp_shr]; exact shr_toI k k2 h2 hn
              · exact vr_normE H (mkBin_ev ..) (opN_lt _ _ h2 (fun h => by cases h))
            · trivial
          · cases hn : (kindEq k k2 && !Nat.beq n 0)
            · trivial
            · rw [cond_true]
              simp only [Bool.and_eq_true, Bool.not_eq_true'] at hn
              cases kindEq_eq hn.1
              refine fin (x' := .int k (toI k (opN .quo k (p.ev e) n))) hg ?_ ?_
              · rw [h1, h3, binOp_quo]; exact div_toI .quo k (.inl rfl) h2 h4 (beq_f hn.2)
              · exact vr_normE H (mkBin_ev ..) (opN_lt _ _ h2 (fun h => by cases h))
          · cases hn : (kindEq k k2 && !Nat.beq n 0)
            · trivial
            · rw [cond_true]
              simp only [Bool.and_eq_true, Bool.not_eq_true'] at hn
              cases kindEq_eq hn.1
              refine fin (x' := .int k (toI k (opN .rem k (p.ev e) n))) hg ?_ ?_
              · rw [h1, h3, binOp_rem]; exact div_toI .rem k (.inr rfl) h2 h4 (beq_f hn.2)
              · exact vr_normE H (mkBin_ev ..) (opN_lt _ _ h2 (fun h => by cases h))
          · trivial
        · rename_i q' _ _
          have nz : ∀ {b : SE}, decB asm (mkCmp .eql k b (.lit 0)) = some false → b.ev e ≠ 0 := fun hd h0 => by
            have := decB_sound H hd
            rw [mkCmp_ev] at this
            simp only [cmpN, SE.ev] at this
            exact beq_f this h0
          split
          · split
            · rename_i hd
              cases hn : kindEq k k2
              · trivial
              · rw [cond_true]
                cases kindEq_eq hn
                refine fin (x' := .int k (toI k (opN .quo k (p.ev e) (q.ev e)))) hg ?_ ?_
                · rw [h1, h3, binOp_quo]; exact div_toI .quo k (.inl rfl) h2 h4 (nz hd)
                · exact vr_normE H (mkBin_ev ..) (opN_lt _ _ h2 (fun h => by cases h))
            · trivial
          · split
            · rename_i hd
              cases hn : kindEq k k2
              · trivial
              · rw [cond_true]
                cases kindEq_eq hn
                refine fin (x' := .int k (toI k (opN .rem k (p.ev e) (q.ev e)))) hg ?_ ?_
                · rw [h1, h3, binOp_rem]; exact div_toI .rem k (.inr rfl) h2 h4 (nz hd)
                · exact vr_normE H (mkBin_ev ..) (opN_lt _ _ h2 (fun h => by cases h))
            · trivial
          · trivial
      · rw [cond_true]
        cases hk : kindEq k k2
        · trivial
        · cases kindEq_eq hk
          rw [cond_true]
          refine fin (x' := .bool (cmpN op k (p.ev e) (q.ev e))) hg ?_ ?_
          · rw [h1, h3]; exact int_cmp ty hcm h2 h4 P W
          · simp only [VR, normB_sound H, mkCmp_ev]
    · rw [cond_true]
      cases hk : kindEq k k2
      · trivial
      · cases kindEq_eq hk
        rw [cond_true]
        refine fin (x' := .int k (toI k (opN op k (p.ev e) (q.ev e)))) hg ?_ ?_
        · rw [h1, h3]; exact int_arith ty ha h2 h4 P W
        · exact vr_normE H (mkBin_ev ..) (opN_lt _ _ h2 (fun _ => h4))
  · rename_i p q e1 e2
    rw [e1] at vx; rw [e2] at vy
    have h1 : a.eval x = .bool p := vx
    have h3 := vy.boolv
    have hg : (eqGuard op ty x y (a.eval x) (a.eval y)).run P W = .ok () W := by rw [h1, eqGuard_at_bool]; rfl
    cases hcl : Nat.beq cl 1
    · trivial
    · cases beq_t hcl
      rw [cond_true]
      have hu : P.underlying ty = some .bool := by cases tc <;> first | assumption | omega
      obtain ⟨b1, b2⟩ := bool_bin (b := p) (c := q.ev e) hu W
      unfold eqB
      split
      · refine fin (x' := .bool (p == q.ev e)) hg (by rw [h1, h3]; exact b1) ?_
        cases p <;> simp [VR, mkNot_ev]
      · refine fin (x' := .bool (!(p == q.ev e))) hg (by rw [h1, h3]; exact b2) ?_
        cases p <;> simp [VR, mkNot_ev]
      · trivial
  · rename_i p q _ e1 e2
    rw [e1] at vx; rw [e2] at vy
    have h1 := vx.boolv
    have h3 : a.eval y = .bool q := vy
    have hg : (eqGuard op ty x y (a.eval x) (a.eval y)).run P W = .ok () W := by rw [h1, eqGuard_at_bool]; rfl
    cases hcl : Nat.beq cl 1
    · trivial
    · cases beq_t hcl
      rw [cond_true]
      have hu : P.underlying ty = some .bool := by cases tc <;> first | assumption | omega
      obtain ⟨b1, b2⟩ := bool_bin (b := p.ev e) (c := q) hu W
      unfold eqB
      split
      · refine fin (x' := .bool (p.ev e == q)) hg (by rw [h1, h3]; exact b1) ?_
        cases q <;> simp [VR, mkNot_ev]
      · refine fin (x' := .bool (!(p.ev e == q))) hg (by rw [h1, h3]; exact b2) ?_
        cases q <;> simp [VR, mkNot_ev]
      · trivial
  · rename_i p q e1 e2
    rw [e1] at vx; rw [e2] at vy
    obtain ⟨xs, h1, h2⟩ := vx
    obtain ⟨ys, h3, h4⟩ := vy
    cases hcl : (Nat.beq cl (9 + llen p) && Nat.beq cl (9 + llen q))
    · trivial
    · simp only [Bool.and_eq_true] at hcl
      have c1 := beq_t hcl.1
      rw [llen_eq] at c1
      rw [cond_true]
      split
      · rename_i r hr
        obtain ⟨d, d1, d2, d3, d4⟩ := eqL_sound H h2 h4 hr
        cases tc with
        | @st fs n hn hu hf q1 q2 =>
          have hsz : xs.size = fs.size := by have := h2.length; simp at this; omega
          have he := struct_equal (ys := ys) hu hf q2 hsz d1 d2 d3 d4 W
          have hg : ∀ op, (eqGuard op ty x y (a.eval x) (a.eval y)).run P W = .ok () W := by
            intro op
            rw [h1, h3]
            cases op <;> first | rfl | simp [eqGuard, q1, Result.andThen]
          split
          · refine fin (x' := .bool r) (hg _) ?_ rfl
            rw [h1, h3, show binOp .eql ty (.agg xs) (.agg ys) = (do pure (.bool (← Op.equal ty (.agg xs) (.agg ys)))) from rfl]
            simp [he, Result.andThen]
          · refine fin (x' := .bool (!r)) (hg _) ?_ rfl
            rw [h1, h3, show binOp .neq ty (.agg xs) (.agg ys) = (do pure (.bool (!(← Op.equal ty (.agg xs) (.agg ys))))) from rfl]
            simp [he, Result.andThen]
          · trivial
        | _ => exfalso; omega
      · trivial
  · cases hcl : (refC cl (opd t xx) && refC cl (opd t xy) && (isNilV (opd t xx) || isNilV (opd t xy)))
    · trivial
    · simp only [Bool.and_eq_true] at hcl
      have r1 := refS hcl.1.1 vx
      have r2 := refS hcl.1.2 vy
      obtain ⟨b1, b2⟩ := refs_bin tc r1 r2 hcl.2 W
      have hg := refs_guard op tc r1 r2 W
      rw [cond_true]
      split
      · exact fin (x' := .bool _) hg b1 rfl
      · exact fin (x' := .bool _) hg b2 rfl
      · trivial
end
end Go.Sx
/-
  Slices of slices and of arrays; lengths; the least and the greatest; maps.
-/
namespace Go.Sx
open Go

variable {P : Program} {R : Nat → Prop} {e : Env} {g : G} {W : World} {asm : Asm} {t : Tr AV} {a : Act} {nt : Nat}

/-- A bound that is given, or none. -/
inductive OVn : Option Nat → Option Value → Prop
  | none : OVn none none
  | some (k : IntKind) (n : Nat) : OVn (some n) (some (.int k (n : Int)))

theorem run_sliceBounds {isS : Bool} {len cap : Nat} {lo hi mx : Option Nat} {vl vh vm : Option Value} (h1 : OVn lo vl) (h2 : OVn hi vh) (h3 : OVn mx vm) (hm : mx.isSome = true → hi.isSome = true)
    (c1 : lo.getD 0 ≤ hi.getD len) (c2 : hi.getD len ≤ mx.getD cap) (c3 : mx.getD cap ≤ cap) (P : Program) (W : World) :
    (Instr.sliceBounds isS len cap vl vh vm).run P W = .ok (lo.getD 0, hi.getD len, mx.getD cap) W := by
  cases h3 with
  | none =>
    cases h2 with
    | none =>
      cases h1 with
      | none => simp [Instr.sliceBounds, Result.andThen]
      | some k n =>
        have c1' : n ≤ len := c1
        simp [Instr.sliceBounds, Instr.sliceBound, asIntOf, Result.andThen, c1']
    | some k2 n2 =>
      have c2' : n2 ≤ cap := c2
      cases h1 with
      | none => simp [Instr.sliceBounds, Instr.sliceBound, asIntOf, Result.andThen, c2']
      | some k n =>
        have c1' : n ≤ n2 := c1
        simp [Instr.sliceBounds, Instr.sliceBound, asIntOf, Result.andThen, c1', c2']
  | some k3 n3 =>
    have c3' : n3 ≤ cap := c3
    cases h2 with
    | none => exact absurd (hm rfl) (by decide)
    | some k2 n2 =>
      have c2' : n2 ≤ n3 := c2
      cases h1 with
      | none => simp [Instr.sliceBounds, Instr.sliceBound, asIntOf, Result.andThen, c2', c3']
      | some k n =>
        have c1' : n ≤ n2 := c1
        simp [Instr.sliceBounds, Instr.sliceBound, asIntOf, Result.andThen, c1', c2', c3']

/-- A slice of a known one. -/
theorem VR.cutKnown {b off cap l h m size c mm : Nat} (hb : e.blk b = some (c, mm)) (c1 : l ≤ h) (c2 : h ≤ m) (c3 : m ≤ cap) (hc : cap < half .i64) :
    VR e (.slice b (cond (Nat.beq m l) off (off + l * size)) (.lit (h - l)) (.known (m - l))) (.slice (if m = l then (some ⟨c, off, none⟩ : Option Addr) else (some (⟨c, off, none⟩ : Addr)).map (·.add (l * size))) (h - l) (m - l)) := by
  refine ⟨c, mm, hb, ?_, ?_, ?_⟩
  · by_cases hq : m = l
    · subst hq; simp [SE.ev]
    · have : Nat.beq m l = false := by
        cases hh : Nat.beq m l
        · rfl
        · exact absurd (beq_t hh) hq
      simp [hq, this, SE.ev, addr_add]
  · show h - l ≤ m - l; omega
  · omega

theorem sliceV_sound {ty el : TypeId} {size : Nat} {v v' : AV} {x : Value} {lo hi mx : Option Nat} {vl vh vm : Option Value} (hu : P.underlying ty = some (.slice el)) (hs : sizeT P el = some size)
    (hv : VR e v x) (h1 : OVn lo vl) (h2 : OVn hi vh) (h3 : OVn mx vm) (hm : mx.isSome = true → hi.isSome = true) (h : sliceV size v lo hi mx = some v') (W : World) :
    ∃ x', (Instr.sliceAt ty x vl vh vm).run P W = .ok x' W ∧ VR e v' x' := by
  have run : ∀ {base : Option Addr} {len cap : Nat}, x = .slice base len cap → lo.getD 0 ≤ hi.getD len → hi.getD len ≤ mx.getD cap → mx.getD cap ≤ cap →
      (Instr.sliceAt ty x vl vh vm).run P W = .ok (.slice (if mx.getD cap = lo.getD 0 then base else base.map (·.add (lo.getD 0 * size))) (hi.getD len - lo.getD 0) (mx.getD cap - lo.getD 0)) W := by
    intro base len cap hx c1 c2 c3
    have hb := run_sliceBounds (isS := true) h1 h2 h3 hm c1 c2 c3 P W
    subst hx
    simp only [Instr.sliceAt, Instr.slice, Sem.run_bind, run_underlying hu, Result.andThen, hb, sizeT_run hs, Sem.run_pure]
  unfold sliceV at h
  split at h
  · -- nil
    have hx : x = .slice none 0 0 := hv
    cases hc : (Nat.beq (lo.getD 0) 0 && Nat.beq (hi.getD 0) 0 && Nat.beq (mx.getD 0) 0)
    · rw [hc] at h; cases h
    · rw [hc] at h; cases h
      simp only [Bool.and_eq_true] at hc
      have q1 := beq_t hc.1.1
      have q2 := beq_t hc.1.2
      have q3 := beq_t hc.2
      refine ⟨_, run hx (by omega) (by omega) (by omega), ?_⟩
      rw [q1, q2, q3]; rfl
  · -- empty
    rename_i z
    obtain ⟨ad, cp, hx, hz⟩ := hv
    cases hc : (Nat.beq (lo.getD 0) 0 && Nat.beq (hi.getD 0) 0)
    · rw [hc] at h; cases h
    · rw [hc] at h
      simp only [Bool.and_eq_true] at hc
      have q1 := beq_t hc.1
      have q2 := beq_t hc.2
      cases mx with
      | none =>
        cases h
        refine ⟨_, run hx (by omega) (by rw [q2]; exact Nat.zero_le _) (Nat.le_refl _), ?_⟩
        rw [q1, q2]
        by_cases hq : cp = 0
        · subst hq; exact ⟨ad, 0, rfl, fun _ => rfl⟩
        · refine ⟨ad.add 0, cp, by simp [hq], fun hzz => absurd (hz hzz) hq⟩
      | some m =>
        simp only at h
        cases hm0 : Nat.beq m 0
        · rw [hm0] at h; cases h
        · rw [hm0] at h; cases h
          cases beq_t hm0
          refine ⟨_, run hx (by omega) (by omega) (Nat.zero_le _), ?_⟩
          rw [q1, q2]
          exact ⟨ad, 0, rfl, fun _ => rfl⟩
  · rename_i b off n cap
    cases cap with
    | known c =>
      obtain ⟨c', mm, hb, hx, hle, hlt⟩ := hv
      simp only at h
      cases hc : (Nat.ble (lo.getD 0) (hi.getD n) && Nat.ble (hi.getD n) (mx.getD c) && Nat.ble (mx.getD c) c)
      · rw [hc] at h; cases h
      · rw [hc] at h; cases h
        simp only [Bool.and_eq_true] at hc
        have c1 := ble_le hc.1.1
        have c2 := ble_le hc.1.2
        have c3 := ble_le hc.2
        exact ⟨_, run (len := n) hx c1 c2 c3, VR.cutKnown hb c1 c2 c3 hlt⟩
    | room sz =>
      obtain ⟨c', mm, k, hb, hx, hhalf, hle, hroom⟩ := hv
      simp only [SE.ev] at hhalf hle hx
      simp only at h
      cases mx with
      | some m =>
        simp only at h
        cases hc : (Nat.ble (lo.getD 0) (hi.getD n) && Nat.ble (hi.getD n) m && Nat.ble m n)
        · rw [hc] at h; cases h
        · rw [hc] at h; cases h
          simp only [Bool.and_eq_true] at hc
          have c1 := ble_le hc.1.1
          have c2 := ble_le hc.1.2
          have c3 := ble_le hc.2
          refine ⟨_, run (len := n) hx c1 c2 (by show m ≤ k; omega), ?_⟩
          exact VR.cutKnown (cap := n) hb c1 c2 c3 hhalf
      | none =>
        simp only at h
        cases hc : (Nat.ble (lo.getD 0) (hi.getD n) && Nat.ble (hi.getD n) n && Nat.beq sz size)
        · rw [hc] at h; cases h
        · rw [hc] at h
          simp only [Bool.and_eq_true] at hc
          have c1 := ble_le hc.1.1
          have c2 := ble_le hc.1.2
          have c3 := beq_t hc.2
          subst c3
          refine ⟨_, run (len := n) (cap := k) hx c1 (by show _ ≤ k; omega) (Nat.le_refl _), ?_⟩
          rw [cond_true] at h
          show VR e v' (.slice (if k = lo.getD 0 then some ⟨c', off, none⟩ else _) _ (k - lo.getD 0))
          cases hnl : Nat.ble n (lo.getD 0)
          · rw [hnl] at h; cases h
            have hlt := ble_lt hnl
            rw [if_neg (by omega)]
            refine ⟨c', mm, k - lo.getD 0, hb, by simp [SE.ev, addr_add], ?_, ?_, ?_⟩
            · show hi.getD n - lo.getD 0 < half .i64; omega
            · show hi.getD n - lo.getD 0 ≤ k - lo.getD 0; omega
            · have : lo.getD 0 * sz + (k - lo.getD 0) * sz = k * sz := by rw [← Nat.add_mul]; congr 1; omega
              omega
          · have hnl' := ble_le hnl
            rw [hnl, cond_true] at h
            have hh : hi.getD n - lo.getD 0 = 0 := by omega
            cases hl0 : Nat.beq (lo.getD 0) 0
            · rw [hl0] at h; cases h
              rw [hh]
              by_cases hk : k = lo.getD 0
              · rw [if_pos hk]; exact ⟨_, _, rfl, fun h => by cases h⟩
              · rw [if_neg hk]; exact ⟨_, _, rfl, fun h => by cases h⟩
            · rw [hl0] at h; cases h
              have h0 := beq_t hl0
              have hn0 : n = 0 := by omega
              subst hn0
              rw [h0]
              rw [show hi.getD 0 - 0 = 0 by omega]
              refine ⟨c', mm, k, hb, ?_, hhalf, hle, hroom⟩
              by_cases hk : k = 0
              · rw [if_pos hk]; simp [SE.ev]
              · rw [if_neg hk]; simp [SE.ev, addr_add]
  · rename_i b off len cap _
    have hv' : ∃ c k, x = .slice (some ⟨c, off, none⟩) (len.ev e) k := by
      cases cap with
      | known k => obtain ⟨c, m, h1, h2, h3⟩ := hv; exact ⟨c, k, h2⟩
      | room k => obtain ⟨c, m, k, h1, h2, h3⟩ := hv; exact ⟨c, k, h2⟩
    obtain ⟨c, k, hx⟩ := hv'
    cases hc : (Nat.beq (lo.getD 0) 0 && Nat.beq (hi.getD 1) 0 && Nat.beq (mx.getD 1) 0)
    · rw [hc] at h; cases h
    · rw [hc] at h; cases h
      simp only [Bool.and_eq_true] at hc
      have q1 := beq_t hc.1.1
      have q2 := beq_t hc.1.2
      have q3 := beq_t hc.2
      have q2' : ∀ d, hi.getD d = 0 := fun d => by cases hi with | none => simp at q2 | some y => simpa using q2
      have q3' : ∀ d, mx.getD d = 0 := fun d => by cases mx with | none => simp at q3 | some y => simpa using q3
      refine ⟨_, run hx (by rw [q1]; exact Nat.zero_le _) (by rw [q2']; exact Nat.zero_le _) (by rw [q3']; exact Nat.zero_le _), ?_⟩
      rw [q1, q2', q3']
      exact ⟨⟨c, off, none⟩, 0, rfl, fun _ => rfl⟩
  · cases h

section
variable (H : Here P R e g W asm t a nt)
include H

theorem optN_sound {o : Option Operand} {x : Option XOpd} {n : Option Nat} (h : compOO nt o = some x) (hn : optN t x = some n) : OVn n (o.map a.eval) := by
  cases o with
  | none => cases h; cases hn; exact .none
  | some o =>
    unfold compOO at h
    simp only at h
    cases ho : compO nt o with
    | none => rw [ho] at h; cases h
    | some y =>
      rw [ho] at h; cases h
      have hv := H.opd ho
      unfold optN at hn
      simp only at hn
      split at hn
      · rename_i k m he
        rw [he] at hv
        obtain ⟨h1, h2⟩ := hv.int
        cases hng : negN k m
        · rw [hng] at hn; cases hn
          rw [toI_nonneg (by exact hng)] at h1
          simp only [Option.map_some, h1, SE.ev]
          exact .some k m
        · rw [hng] at hn; cases hn
      · cases hn
theorem optN_isSome {o : Option Operand} {x : Option XOpd} {n : Option Nat} (h : compOO nt o = some x) (hn : optN t x = some n) : n.isSome = o.isSome := by
  have h' := optN_sound H h hn
  have : (o.map a.eval).isSome = n.isSome := by
    generalize o.map a.eval = ov at h'
    cases h' <;> rfl
  simpa using this.symm

theorem s_slc {ty el : TypeId} {size : Nat} {x : Operand} {lo hi mx : Option Operand} {xx : XOpd} {xl xh xm : Option XOpd} (hx : compO nt x = some xx) (hl : compOO nt lo = some xl) (hh : compOO nt hi = some xh) (hm : compOO nt mx = some xm)
    (hu : P.underlying ty = some (.slice el)) (hs : sizeT P el = some size) (hmx : (mx.isSome && hi.isNone) = false) :
    Good P R e g W ((do pure (.value (← Instr.sliceAt ty (a.eval x) (lo.map a.eval) (hi.map a.eval) (mx.map a.eval))) : Sem Next).run P W) (o_slc size xx xl xh xm t g) := by
  have hv := H.opd hx
  unfold o_slc
  split
  · rename_i l h m e1 e2 e3
    split
    · rename_i v hsv
      obtain ⟨x', r1, r2⟩ := sliceV_sound hu hs hv (optN_sound H hl e1) (optN_sound H hh e2) (optN_sound H hm e3)
        (by rw [optN_isSome H hm e3, optN_isSome H hh e2]; intro hq; rw [hq] at hmx; cases hi <;> simp_all) hsv W
      refine Good.pure H (x := x') ?_ r2
      simp [r1, Result.andThen]
    · trivial
  · trivial

theorem s_slArr {ty el : TypeId} {len size : Nat} {x : Operand} {lo hi mx : Option Operand} {xx : XOpd} {xl xh xm : Option XOpd} (hx : compO nt x = some xx) (hl : compOO nt lo = some xl) (hh : compOO nt hi = some xh) (hm : compOO nt mx = some xm)
    (hu : P.underlying ty = some (.array len el)) (hs : sizeT P el = some size) (hmx : (mx.isSome && hi.isNone) = false) :
    Good P R e g W ((do pure (.value (← Instr.sliceAt ty (a.eval x) (lo.map a.eval) (hi.map a.eval) (mx.map a.eval))) : Sem Next).run P W) (o_slArr len size xx xl xh xm t g) := by
  have hv := H.opd hx
  unfold o_slArr
  split
  · rename_i b o he
    rw [he] at hv
    obtain ⟨c, mm, hb, he⟩ := hv
    split
    · rename_i l h m e1 e2 e3
      split
      · rename_i v hsv
        cases hlen : Nat.ble len 4294967296
        · trivial
        · have hlen' := ble_le hlen
          rw [cond_true]
          unfold sliceV at hsv
          simp only at hsv
          cases hc : (Nat.ble (l.getD 0) (h.getD len) && Nat.ble (h.getD len) (m.getD len) && Nat.ble (m.getD len) len)
          · rw [hc] at hsv; cases hsv
          · rw [hc] at hsv; cases hsv
            simp only [Bool.and_eq_true] at hc
            have c1 := ble_le hc.1.1
            have c2 := ble_le hc.1.2
            have c3 := ble_le hc.2
            have hbd := run_sliceBounds (isS := false) (optN_sound H hl e1) (optN_sound H hh e2) (optN_sound H hm e3)
              (by rw [optN_isSome H hm e3, optN_isSome H hh e2]; intro hq; rw [hq] at hmx; cases hi <;> simp_all) c1 c2 c3 P W
            refine Good.pure H (x := _) ?_ (VR.cutKnown (size := size) (off := o) hb c1 c2 c3 (by simp [half]; omega))
            simp only [Instr.sliceAt, Sem.run_bind, run_underlying hu, Result.andThen, he, Instr.sureAddr, Sem.run_pure, hbd, sizeT_run hs]
            by_cases hq : m.getD len = l.getD 0
            · rw [if_pos hq, if_pos hq]
            · rw [if_neg hq, if_neg hq]; rfl
      · trivial
    · trivial
  · trivial

theorem s_arrOf {ty el : TypeId} {n : Nat} {x : Operand} {xx : XOpd} (hx : compO nt x = some xx) (hu : P.underlying ty = some (.array n el)) :
    Good P R e g W ((do pure (.value (← Instr.arrayAt ty (a.eval x))) : Sem Next).run P W) (o_arrOf n xx t g) := by
  have hv := H.opd hx
  unfold o_arrOf
  split
  · rename_i b o len cap he
    rw [he] at hv
    have hv' : ∃ c m k, e.blk b = some (c, m) ∧ a.eval x = .slice (some ⟨c, o, none⟩) len k := by
      cases cap with
      | known k => obtain ⟨c, m, h1, h2, h3⟩ := hv; exact ⟨c, m, k, h1, h2⟩
      | room k => obtain ⟨c, m, k, h1, h2, h3⟩ := hv; exact ⟨c, m, k, h1, h2⟩
    obtain ⟨c, m, k, hb, he⟩ := hv'
    cases hle : Nat.ble n len
    · trivial
    · have := ble_le hle
      rw [cond_true]
      refine Good.pure H (x := .pointer (some ⟨c, o, none⟩)) ?_ ⟨c, m, hb, rfl⟩
      simp [Instr.arrayAt, run_underlying hu, he, Result.andThen, Nat.not_lt.2 this]
  · trivial

end

/-! ### Blocks that are no rows -/
theorem obj_run {r c n : Nat} (hb : e.blk r = some (c, n)) (S : Sim P R e g W) (hne : hget g r ≠ .none) : ∃ ob, R c ∧ W.heap[c]? = some ob ∧ OR P e (hget g r) n ob := by
  obtain ⟨c', n', ob, h1, h2, h3, h4⟩ := S.obj r hne
  rw [hb] at h1; cases h1
  exact ⟨ob, h2, h3, h4⟩
theorem getObj_run {c : Nat} {ob : Obj} (h : W.heap[c]? = some ob) (hn : ∀ x y z, ob ≠ .cells x y z) : (getObj c).run P W = .ok ob W := by
  cases ob <;> first | (exact absurd rfl (hn _ _ _)) | simp [getObj, Sem.run, h]
theorem setObj_run {c : Nat} {ob ob' : Obj} (h : W.heap[c]? = some ob) (hn : ∀ x y z, ob ≠ .cells x y z) : (setObj c ob').run P W = .ok () { W with heap := W.heap.setIfInBounds c ob' } := by
  cases ob <;> first | (exact absurd rfl (hn _ _ _)) | simp [setObj, Sem.run, h]
theorem setObj_put {c : Nat} {ob ob' : Obj} (h : W.heap[c]? = some ob) : PutAt W { W with heap := W.heap.setIfInBounds c ob' } c ob' := by
  have hlt := (Array.getElem?_eq_some_iff.1 h).1
  exact ⟨by simp [hlt], fun c' hc => by simp [Array.getElem?_setIfInBounds, Ne.symm hc], by simp, rfl, rfl, rfl⟩
theorem Sim.map (S : Sim P R e g W) {r c n : Nat} {es : List (AV × AV)} (hb : e.blk r = some (c, n)) (hm : hget g r = .map es) : ∃ entries clock, W.heap[c]? = some (.map entries clock) ∧ ER e es entries.toList := by
  obtain ⟨ob, h1, h2, h3⟩ := obj_run hb S (by rw [hm]; exact fun h => by cases h)
  rw [hm] at h3
  cases ob with
  | map entries clock => exact ⟨entries, clock, h2, h3⟩
  | _ => exact h3.elim
theorem Sim.chan (S : Sim P R e g W) {r c n cap : Nat} {buf : List AV} (hb : e.blk r = some (c, n)) (hm : hget g r = .chan cap buf) :
    ∃ b s q, W.heap[c]? = some (.chan cap b false s q false) ∧ VRs e buf b.toList := by
  obtain ⟨ob, h1, h2, h3⟩ := obj_run hb S (by rw [hm]; exact fun h => by cases h)
  rw [hm] at h3
  cases ob with
  | chan cap' b cl s q tm =>
    obtain ⟨rfl, rfl, rfl, h4⟩ := h3
    exact ⟨b, s, q, h2, h4⟩
  | _ => exact h3.elim
theorem ER.length : ∀ {as : List (AV × AV)} {xs : List MapEntry}, ER e as xs → as.length = xs.length
  | [], [], _ => rfl
  | _ :: _, _ :: _, h => by simp [ER.length h.2.2]
  | [], _ :: _, h => h.elim
  | _ :: _, [], h => h.elim

/-! ### Lengths, the least, the greatest -/
theorem len_val {n : Nat} (h : n < half .i64) : goInt (n : Int) = .int .i64 (toI .i64 n) := by
  unfold goInt
  rw [toI_nonneg (by unfold negN; rw [ble_f h]; rfl)]
theorem half_md : half .i64 < md .i64 := by decide
theorem VR.len {n : Nat} (h : n ≤ 4294967296) : VR e (.int .i64 (.lit n)) (goInt (n : Int)) := by
  have h' : n < half .i64 := by simp [half]; omega
  exact ⟨len_val h', Nat.lt_trans h' half_md⟩

section
variable (H : Here P R e g W asm t a nt)
include H
theorem s_len {t0 rt : TypeId} {ats : Array TypeId} {d : TypeDesc} {x : Operand} {xx : XOpd} {cl : Nat} (hx : compO nt x = some xx) (h0 : ats[0]? = some t0) (hu : P.underlying t0 = some d)
    (hd : (∃ el, d = .slice el ∧ cl = 3) ∨ (∃ k v, d = .map k v ∧ cl = 4) ∨ (∃ dr el, d = .chan dr el ∧ cl = 7)) :
    Good P R e g W ((do pure (.value (← Builtin.len_ ats rt #[a.eval x])) : Sem Next).run P W) (o_len cl xx t g) := by
  have hv := H.opd hx
  have ok : ∀ {v : Value} {n : Nat}, a.eval x = v → (Builtin.len_ ats rt #[v]).run P W = .ok (goInt (n : Int)) W → ∀ {s : SE}, VR e (.int .i64 s) (goInt (n : Int)) →
      Good P R e g W ((do pure (.value (← Builtin.len_ ats rt #[a.eval x])) : Sem Next).run P W) (.val (.int .i64 s) g) := by
    intro v n e1 h1 s h2
    refine Good.pure H (x := goInt (n : Int)) ?_ h2
    rw [e1]; simp [h1, Result.andThen]
  have slc : ∀ {b : Option Addr} {n c : Nat} {s : SE}, a.eval x = .slice b n c → VR e (.int .i64 s) (goInt (n : Int)) →
      Good P R e g W ((do pure (.value (← Builtin.len_ ats rt #[a.eval x])) : Sem Next).run P W) (cond (Nat.beq cl 3) (.val (.int .i64 s) g) (.fail 84)) := by
    intro b n c s e1 h1
    cases hc : Nat.beq cl 3
    · trivial
    · have := beq_t hc
      rcases hd with ⟨el, rfl, _⟩ | ⟨k, v, rfl, h⟩ | ⟨dr, el, rfl, h⟩
      · exact ok e1 (by simp [Builtin.len_, h0, run_underlying hu, Result.andThen]) h1
      · omega
      · omega
  unfold o_len
  split
  · rename_i b o n cap he
    rw [he] at hv
    have hv' : ∃ c k, a.eval x = .slice (some ⟨c, o, none⟩) (n.ev e) k ∧ n.ev e < half .i64 := by
      cases cap with
      | known k => obtain ⟨c, m, h1, h2, h3⟩ := hv; exact ⟨c, k, h2, by omega⟩
      | room k => obtain ⟨c, m, k, h1, h2, h3⟩ := hv; exact ⟨c, k, h2, h3.1⟩
    obtain ⟨c, k, h1, h2⟩ := hv'
    exact slc h1 ⟨len_val h2, Nat.lt_trans h2 half_md⟩
  · rename_i he
    rw [he] at hv
    exact slc (show a.eval x = .slice none 0 0 from hv) (VR.len (n := 0) (by omega))
  · rename_i z he
    rw [he] at hv
    obtain ⟨ad, c, h1, _⟩ := hv
    exact slc h1 (VR.len (n := 0) (by omega))
  · rename_i he
    rw [he] at hv
    have hv : a.eval x = .map none := hv
    cases hc : Nat.beq cl 4
    · trivial
    · have := beq_t hc
      rcases hd with ⟨el, rfl, _⟩ | ⟨k, v, rfl, h⟩ | ⟨dr, el, rfl, h⟩
      · omega
      · exact ok (n := 0) hv (by simp [Builtin.len_, h0, run_underlying hu, Result.andThen]) (VR.len (by omega))
      · omega
  · rename_i r he
    rw [he] at hv
    obtain ⟨c, n, hb, hv⟩ := hv
    cases hcc : Nat.beq cl 4
    · trivial
    rw [cond_true]
    split
    · rename_i es hm
      cases hc : Nat.ble (llen es) 4294967296
      · trivial
      · have h4 := beq_t hcc
        have hle := ble_le hc
        rw [llen_eq] at hle ⊢
        obtain ⟨entries, clock, h1, h2⟩ := H.sim.map hb hm
        have hl := h2.length
        rcases hd with ⟨el, rfl, _⟩ | ⟨k, v, rfl, h⟩ | ⟨dr, el, rfl, h⟩
        · omega
        · refine ok (n := entries.size) hv (by simp [Builtin.len_, h0, run_underlying hu, getObj_run h1 (fun _ _ _ h => by cases h), Result.andThen]) ?_
          have hl' : es.length = entries.size := by simpa using hl
          rw [← hl']; exact VR.len hle
        · omega
    · trivial
  · rename_i r he
    rw [he] at hv
    obtain ⟨c, n, hb, hv⟩ := hv
    cases hcc : Nat.beq cl 7
    · trivial
    rw [cond_true]
    split
    · rename_i cap buf hm
      cases hc : Nat.ble (llen buf) 4294967296
      · trivial
      · have h4 := beq_t hcc
        have hle := ble_le hc
        rw [llen_eq] at hle ⊢
        obtain ⟨bf, s, q, h1, h2⟩ := H.sim.chan hb hm
        have hl := h2.length
        rcases hd with ⟨el, rfl, _⟩ | ⟨k, v, rfl, h⟩ | ⟨dr, el, rfl, h⟩
        · omega
        · omega
        · refine ok (n := bf.size) hv (by simp [Builtin.len_, h0, run_underlying hu, getObj_run h1 (fun _ _ _ h => by cases h), Result.andThen]) ?_
          have hl' : buf.length = bf.size := by simpa using hl
          rw [← hl']; exact VR.len hle
    · trivial
  · trivial

theorem s_lenArr {t0 rt el : TypeId} {ats : Array TypeId} {n : Nat} {v : Value} (h0 : ats[0]? = some t0) (hu : P.underlying t0 = some (.array n el)) (hn : n ≤ 4294967296) :
    Good P R e g W ((do pure (.value (← Builtin.len_ ats rt #[v])) : Sem Next).run P W) (o_lenArr n t g) := by
  refine Good.pure H (x := goInt (n : Int)) ?_ (VR.len hn)
  simp [Builtin.len_, h0, run_underlying hu, Result.andThen]

theorem s_min2 {ats : Array TypeId} {rt : TypeId} {x y : Operand} {xx xy : XOpd} (hx : compO nt x = some xx) (hy : compO nt y = some xy) :
    Good P R e g W ((do pure (.value (← Builtin.min_ ats rt #[a.eval x, a.eval y])) : Sem Next).run P W) (o_min2 asm xx xy t g) := by
  have vx := H.opd hx
  have vy := H.opd hy
  unfold o_min2
  split
  · rename_i k p k2 q e1 e2
    rw [e1] at vx; rw [e2] at vy
    obtain ⟨h1, h2⟩ := vx.int
    obtain ⟨h3, h4⟩ := vy.int
    cases hk : kindEq k k2
    · trivial
    · cases kindEq_eq hk
      rw [cond_true]
      split
      · rename_i r hr
        have hd := decB_sound H hr
        rw [mkCmp_ev] at hd
        have hc := cmp_toI .lss k rfl h4 h2 (P := P) (w := W)
        rw [hd] at hc
        have hc' : decide (toI k (q.ev e) < toI k (p.ev e)) = r := by simpa [Op.intCmp] using hc
        refine Good.pure H (x := .int k (cond r (toI k (q.ev e)) (toI k (p.ev e)))) ?_ ?_
        · rw [h1, h3]
          have : (if toI k (q.ev e) < toI k (p.ev e) then toI k (q.ev e) else toI k (p.ev e)) = cond r (toI k (q.ev e)) (toI k (p.ev e)) := by
            cases r
            · rw [if_neg (of_decide_eq_false hc')]; rfl
            · rw [if_pos (of_decide_eq_true hc')]; rfl
          simp [Builtin.min_, Builtin.min2, this, Result.andThen]
        · cases r
          · exact ⟨rfl, h2⟩
          · exact ⟨rfl, h4⟩
      · trivial
  · trivial
theorem s_max2 {ats : Array TypeId} {rt : TypeId} {x y : Operand} {xx xy : XOpd} (hx : compO nt x = some xx) (hy : compO nt y = some xy) :
    Good P R e g W ((do pure (.value (← Builtin.max_ ats rt #[a.eval x, a.eval y])) : Sem Next).run P W) (o_max2 asm xx xy t g) := by
  have vx := H.opd hx
  have vy := H.opd hy
  unfold o_max2
  split
  · rename_i k p k2 q e1 e2
    rw [e1] at vx; rw [e2] at vy
    obtain ⟨h1, h2⟩ := vx.int
    obtain ⟨h3, h4⟩ := vy.int
    cases hk : kindEq k k2
    · trivial
    · cases kindEq_eq hk
      rw [cond_true]
      split
      · rename_i r hr
        have hd := decB_sound H hr
        rw [mkCmp_ev] at hd
        have hc := cmp_toI .lss k rfl h2 h4 (P := P) (w := W)
        rw [hd] at hc
        have hc' : decide (toI k (p.ev e) < toI k (q.ev e)) = r := by simpa [Op.intCmp] using hc
        refine Good.pure H (x := .int k (cond r (toI k (q.ev e)) (toI k (p.ev e)))) ?_ ?_
        · rw [h1, h3]
          have : (if toI k (q.ev e) > toI k (p.ev e) then toI k (q.ev e) else toI k (p.ev e)) = cond r (toI k (q.ev e)) (toI k (p.ev e)) := by
            cases r
            · rw [if_neg (of_decide_eq_false hc')]; rfl
            · rw [if_pos (of_decide_eq_true hc')]; rfl
          simp [Builtin.max_, Builtin.max2, this, Result.andThen]
        · cases r
          · exact ⟨rfl, h2⟩
          · exact ⟨rfl, h4⟩
      · trivial
  · trivial
end

/-! ### Maps whose keys are numbers -/
theorem find_lookup {kd kk : IntKind} {n : Nat} (hn : n < md kk) : ∀ {es : List (AV × AV)} {l : List MapEntry} {j : Nat} {r : Option AV}, ER e es l → lookupE kk n es = some r →
    (r = none ∧ Instr.findNow (.int kd) (.int kk (toI kk n)) l j = some none) ∨ (∃ v i x, r = some v ∧ Instr.findNow (.int kd) (.int kk (toI kk n)) l j = some (some (i, x)) ∧ VR e v x)
  | [], [], j, r, _, h => by cases h; exact .inl ⟨rfl, rfl⟩
  | p :: es, x :: l, j, r, hr, h => by
    obtain ⟨h1, h2, h3⟩ := hr
    have h' : (match p.1 with
      | .int k' (.lit m) => cond (kindEq kk k') (cond (Nat.beq n m) (some (some p.2)) (lookupE kk n es)) none
      | _ => none) = some r := h
    split at h'
    · rename_i k' m hp
      rw [hp] at h1
      obtain ⟨q1, q2⟩ := h1.int
      simp only [SE.ev] at q1 q2
      cases hk : kindEq kk k'
      · rw [hk] at h'; cases h'
      · cases kindEq_eq hk
        rw [hk, cond_true] at h'
        cases hb : Nat.beq n m
        · rw [hb, cond_false] at h'
          have hne : (toI kk n == toI kk m) = false := by
            have := beq_f hb
            simp only [beq_eq_false_iff_ne]
            exact fun hq => this (toI_inj kk hn q2 hq)
          have hsame : Instr.sameNow (.int kd) (.int kk (toI kk n)) x.key = some false := by rw [q1]; simp [Instr.sameNow, hne]
          rw [Instr.findNow, hsame]
          exact find_lookup hn h3 h'
        · cases beq_t hb
          rw [hb, cond_true] at h'
          cases h'
          refine .inr ⟨p.2, j, x.val, rfl, ?_, h2⟩
          have hsame : Instr.sameNow (.int kd) (.int kk (toI kk n)) x.key = some true := by rw [q1]; simp [Instr.sameNow]
          rw [Instr.findNow, hsame]
    · cases h'
  | [], _ :: _, _, _, h, _ => h.elim
  | _ :: _, [], _, _, h, _ => h.elim

theorem find_insert {kd kk : IntKind} {n : Nat} {v : AV} {x : Value} (hn : n < md kk) (hv : VR e v x) : ∀ {es es' : List (AV × AV)} {l : List MapEntry} (j : Nat), ER e es l → insertE kk v n es = some es' →
    (∃ i ent, Instr.findNow (.int kd) (.int kk (toI kk n)) l j = some (some (j + i, ent.val)) ∧ l[i]? = some ent ∧ ent.key = .int kk (toI kk n) ∧ ER e es' (l.modify i fun q => { q with key := .int kk (toI kk n), val := x })) ∨
    (Instr.findNow (.int kd) (.int kk (toI kk n)) l j = some none ∧ ∀ born, ER e es' (l ++ [{ key := .int kk (toI kk n), val := x, born }]))
  | [], es', [], j, _, h => by
    cases h
    exact .inr ⟨rfl, fun born => ⟨⟨rfl, hn⟩, hv, trivial⟩⟩
  | p :: es, es', y :: l, j, hr, h => by
    obtain ⟨h1, h2, h3⟩ := hr
    have h' : (match p.1 with
      | .int k' (.lit m) => cond (kindEq kk k') (cond (Nat.beq n m) (some ((.int kk (.lit n), v) :: es)) (match insertE kk v n es with | some l => some (p :: l) | none => none)) none
      | _ => none) = some es' := h
    split at h'
    · rename_i k' m hp
      have h1' := h1
      rw [hp] at h1
      obtain ⟨q1, q2⟩ := h1.int
      simp only [SE.ev] at q1 q2
      cases hk : kindEq kk k'
      · rw [hk] at h'; cases h'
      · cases kindEq_eq hk
        rw [hk, cond_true] at h'
        cases hb : Nat.beq n m
        · rw [hb, cond_false] at h'
          have hne : (toI kk n == toI kk m) = false := by
            have := beq_f hb
            simp only [beq_eq_false_iff_ne]
            exact fun hq => this (toI_inj kk hn q2 hq)
          have hsame : Instr.sameNow (.int kd) (.int kk (toI kk n)) y.key = some false := by rw [q1]; simp [Instr.sameNow, hne]
          cases hi : insertE kk v n es with
          | none => rw [hi] at h'; cases h'
          | some r =>
            rw [hi] at h'; cases h'
            rw [Instr.findNow, hsame]
            rcases find_insert hn hv (j + 1) h3 hi with ⟨i, ent, f1, f2, f3, f4⟩ | ⟨f1, f2⟩
            · refine .inl ⟨i + 1, ent, ?_, by simpa using f2, f3, ?_⟩
              · simpa [show j + (i + 1) = j + 1 + i by omega] using f1
              · simp only [List.modify_succ_cons]
                exact ⟨h1', h2, f4⟩
            · exact .inr ⟨f1, fun born => ⟨h1', h2, f2 born⟩⟩
        · cases beq_t hb
          rw [hb, cond_true] at h'
          cases h'
          have hsame : Instr.sameNow (.int kd) (.int kk (toI kk n)) y.key = some true := by rw [q1]; simp [Instr.sameNow]
          refine .inl ⟨0, y, by rw [Instr.findNow, hsame]; rfl, rfl, q1, ?_⟩
          simp only [List.modify_zero_cons]
          exact ⟨⟨rfl, hn⟩, hv, h3⟩
    · cases h'
  | [], _, _ :: _, _, h, _ => h.elim
  | _ :: _, _, [], _, h, _ => h.elim

section
variable (H : Here P R e g W asm t a nt)
include H
theorem s_lookup {ty kt el : TypeId} {kd : IntKind} {z : AV} {ok : Bool} {m k : Operand} {xm xk : XOpd} (hm : compO nt m = some xm) (hk : compO nt k = some xk) (hu : P.underlying ty = some (.map kt el))
    (hku : P.underlying kt = some (.int kd)) (hz : zeroV P el = some z) :
    Good P R e g W ((do pure (.value (← Instr.lookup ty (a.eval m) (a.eval k) ok)) : Sem Next).run P W) (o_lookup asm z ok xm xk t g) := by
  have vm := H.opd hm
  have vk := H.opd hk
  obtain ⟨zx, hz1, hz2⟩ := zeroV_run hz e W
  unfold o_lookup
  split
  · rename_i kk s he
    rw [he] at vk
    obtain ⟨h1, h2⟩ := vk.int
    split
    · rename_i n hd
      obtain ⟨h3, h4⟩ := decN_sound H hd h2
      rw [h3] at h1
      have chk : ∀ b, (Instr.checkKey b 10000 kt (.int kk (toI kk n))).run P W = .ok () W := by
        intro b
        rw [show (10000 : Nat) = 9999 + 1 from rfl]; generalize 9999 = dep
        simp [Instr.checkKey, run_underlying hku, Result.andThen]
      have key : ∀ {entries : Array MapEntry} {es : List (AV × AV)} {r : Option AV}, ER e es entries.toList → lookupE kk n es = some r →
          ((a.eval m = .map none ∧ entries = #[]) ∨ (∃ c clock, a.eval m = .map (some c) ∧ W.heap[c]? = some (.map entries clock))) →
          Good P R e g W ((do pure (.value (← Instr.lookup ty (a.eval m) (a.eval k) ok)) : Sem Next).run P W) (.val (cond ok (.tup [r.getD z, .bool (.lit r.isSome)]) (r.getD z)) g) := by
        intro entries es r hER hl hrun
        have fin : ∀ {v : Value} {b : Bool}, (Instr.lookup ty (a.eval m) (a.eval k) ok).run P W = .ok (if ok then .tuple #[v, .bool b] else v) W → b = r.isSome → VR e (r.getD z) v →
            Good P R e g W ((do pure (.value (← Instr.lookup ty (a.eval m) (a.eval k) ok)) : Sem Next).run P W) (.val (cond ok (.tup [r.getD z, .bool (.lit r.isSome)]) (r.getD z)) g) := by
          intro v b q1 q2 q3
          refine Good.pure H (x := if ok then .tuple #[v, .bool b] else v) (by simp [q1, Result.andThen]) ?_
          cases ok
          · exact q3
          · exact ⟨_, rfl, q3, q2 ▸ rfl, trivial⟩
        rcases find_lookup (kd := kd) (j := 0) h4 hER hl with ⟨rfl, f1⟩ | ⟨v, i, x, rfl, f1, f2⟩
        · refine fin (v := zx) (b := false) ?_ rfl hz2
          have hfk : (Instr.findKey kt (a.eval k) entries.toList).run P W = .ok none W := by
            rw [h1]; simp [Instr.findKey, run_underlying hku, f1, Result.andThen]
          rw [h1] at hfk ⊢
          rcases hrun with ⟨q1, rfl⟩ | ⟨c, clock, q1, q2⟩
          · simp only [Instr.lookup, Sem.run_bind, run_underlying hu, Result.andThen, q1, chk, hfk, hz1, Sem.run_pure]
          · simp only [Instr.lookup, Sem.run_bind, run_underlying hu, Result.andThen, q1, getObj_run q2 (fun _ _ _ h => by cases h), chk, hfk, hz1, Sem.run_pure]
        · refine fin (v := x) (b := true) ?_ rfl f2
          have hfk : (Instr.findKey kt (a.eval k) entries.toList).run P W = .ok (some (i, x)) W := by
            rw [h1]; simp [Instr.findKey, run_underlying hku, f1, Result.andThen]
          rw [h1] at hfk ⊢
          rcases hrun with ⟨q1, rfl⟩ | ⟨c, clock, q1, q2⟩
          · simp only [Instr.lookup, Sem.run_bind, run_underlying hu, Result.andThen, q1, chk, hfk, Sem.run_pure]
          · simp only [Instr.lookup, Sem.run_bind, run_underlying hu, Result.andThen, q1, getObj_run q2 (fun _ _ _ h => by cases h), chk, hfk, Sem.run_pure]
      split
      · rename_i r hr
        split at hr
        · rename_i hm0
          rw [hm0] at vm
          have vm : a.eval m = .map none := vm
          cases hr
          exact key (entries := #[]) (es := []) (r := none) trivial rfl (.inl ⟨vm, rfl⟩)
        · rename_i rr hm0
          rw [hm0] at vm
          obtain ⟨c, nn, hb, vm⟩ := vm
          split at hr
          · rename_i es hg
            obtain ⟨entries, clock, q1, q2⟩ := H.sim.map hb hg
            exact key q2 hr (.inr ⟨c, clock, vm, q1⟩)
          · cases hr
        · cases hr
      · trivial
    · trivial
  · trivial

theorem s_insert {ty kt el : TypeId} {kd : IntKind} {m k v : Operand} {xm xk xv : XOpd} (hm : compO nt m = some xm) (hk : compO nt k = some xk) (hv : compO nt v = some xv) (hu : P.underlying ty = some (.map kt el))
    (hku : P.underlying kt = some (.int kd)) :
    Good P R e g W ((do Instr.mapUpdate ty (a.eval m) (a.eval k) (a.eval v); pure .skip : Sem Next).run P W) (o_insert asm xm xk xv t g) := by
  have vm := H.opd hm
  have vk := H.opd hk
  have vv := H.opd hv
  unfold o_insert
  split
  · rename_i rr hm0
    rw [hm0] at vm
    obtain ⟨c, nn, hb, vm⟩ := vm
    split
    · rename_i es hg
      obtain ⟨entries, clock, q1, q2⟩ := H.sim.map hb hg
      split
      · rename_i kk s he
        rw [he] at vk
        obtain ⟨h1, h2⟩ := vk.int
        split
        · rename_i n hd
          obtain ⟨h3, h4⟩ := decN_sound H hd h2
          rw [h3] at h1
          split
          · rename_i es' hi
            have chk : ∀ b, (Instr.checkKey b 10000 kt (.int kk (toI kk n))).run P W = .ok () W := by
              intro b
              rw [show (10000 : Nat) = 9999 + 1 from rfl]; generalize 9999 = dep
              simp [Instr.checkKey, run_underlying hku, Result.andThen]
            have nc : ∀ x y z, Obj.map entries clock ≠ .cells x y z := fun _ _ _ h => by cases h
            rcases find_insert (kd := kd) h4 vv 0 q2 hi with ⟨i, ent, f1, f2, f3, f4⟩ | ⟨f1, f2⟩
            · have hfk : (Instr.findKey kt (.int kk (toI kk n)) entries.toList).run P W = .ok (some (i, ent.val)) W := by
                simp only [Nat.zero_add] at f1
                simp [Instr.findKey, run_underlying hku, f1, Result.andThen]
              have hst : (Instr.keyThatStays (((entries[i]?).map (·.key)).getD (.int kk (toI kk n))) (.int kk (toI kk n))).run P W = .ok (.int kk (toI kk n)) W := by
                have : entries[i]? = some ent := by simpa using f2
                rw [this]
                simp only [Option.map_some, Option.getD_some, f3]
                unfold Instr.keyThatStays
                rw [if_pos (by rw [show (10000 : Nat) = 9999 + 1 from rfl]; simp [Instr.sameBits])]
                rfl
              obtain ⟨s, kp⟩ := H.sim.put (o' := .map es') hg trivial hb (setObj_put (ob' := .map (entries.modify i fun q => { q with key := .int kk (toI kk n), val := a.eval v }) clock) q1)
                (by show ER e es' _; simpa [Array.toList_modify] using f4)
              refine ⟨e, _, ?_, Env.Le.refl e, s, kp⟩
              rw [vm, h1]
              simp only [Instr.mapUpdate, Sem.run_bind, run_underlying hu, Result.andThen, getObj_run q1 nc, chk, hfk, hst, setObj_run q1 nc, Sem.run_pure]
            · have hfk : (Instr.findKey kt (.int kk (toI kk n)) entries.toList).run P W = .ok none W := by
                simp [Instr.findKey, run_underlying hku, f1, Result.andThen]
              obtain ⟨s, kp⟩ := H.sim.put (o' := .map es') hg trivial hb (setObj_put (ob' := .map (entries.push { key := .int kk (toI kk n), val := a.eval v, born := clock }) (clock + 1)) q1)
                (by show ER e es' _; simpa using f2 clock)
              refine ⟨e, _, ?_, Env.Le.refl e, s, kp⟩
              rw [vm, h1]
              simp only [Instr.mapUpdate, Sem.run_bind, run_underlying hu, Result.andThen, getObj_run q1 nc, chk, hfk, setObj_run q1 nc, Sem.run_pure]
          · trivial
        · trivial
      · trivial
    · trivial
  · trivial
end
end Go.Sx
