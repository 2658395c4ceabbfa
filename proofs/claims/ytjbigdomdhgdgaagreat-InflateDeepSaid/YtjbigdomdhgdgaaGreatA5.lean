/-
  One abstract state seen as another one: blocks and variables under other names, what is not wanted left out.
-/
import Derived.Test.YtjbigdomdhgdgaaGreatA4
set_option linter.unusedSimpArgs false
set_option linter.unusedVariables false
set_option linter.unusedSectionVars false
namespace Go.Sx
open Go

/-! ### Names -/
noncomputable def mkTr (l : List (Nat × Nat)) : Tr Nat := List.rec (motive := fun _ => Tr Nat) .tip (fun p _ ih => ih.setN 0 (p.2 + 1) (p.1 + 1)) l
/-- The other name of a block: itself, where none is told. -/
noncomputable def rho (t : Tr Nat) (b : Nat) : Nat := cond (Nat.beq (t.getN 0 (b + 1)) 0) b (t.getN 0 (b + 1) - 1)
theorem mkTr_get (l : List (Nat × Nat)) (b : Nat) : (mkTr l).getN 0 (b + 1) = 0 ∨ ∃ p ∈ l, p.1 = b ∧ (mkTr l).getN 0 (b + 1) = p.2 + 1 := by
  induction l with
  | nil => exact .inl rfl
  | cons p l ih =>
    show ((mkTr l).setN 0 (p.2 + 1) (p.1 + 1)).getN 0 (b + 1) = 0 ∨ ∃ q ∈ p :: l, q.1 = b ∧ ((mkTr l).setN 0 (p.2 + 1) (p.1 + 1)).getN 0 (b + 1) = q.2 + 1
    rw [getN_setN _ _ _ _ _ (by omega) (by omega)]
    by_cases h : p.1 + 1 = b + 1
    · rw [if_pos h]; exact .inr ⟨p, List.mem_cons_self, by omega, rfl⟩
    · rw [if_neg h]
      rcases ih with ih | ⟨q, h1, h2⟩
      · exact .inl ih
      · exact .inr ⟨q, List.mem_cons_of_mem _ h1, h2⟩
/-- Names below N stay. -/
theorem rho_old {l : List (Nat × Nat)} {N : Nat} (h : (l.all fun p => Nat.ble N p.1 || Nat.beq p.1 p.2) = true) {b : Nat} (hb : b < N) : rho (mkTr l) b = b := by
  unfold rho
  rcases mkTr_get l b with h0 | ⟨p, h1, h2, h3⟩
  · rw [h0]; rfl
  · rw [List.all_eq_true] at h
    have := h p h1
    rw [Bool.or_eq_true] at this
    rw [h3]
    show p.2 + 1 - 1 = b
    rcases this with h4 | h4
    · have := ble_le h4; omega
    · have := beq_t h4; omega

/-! ### Values -/
abbrev Eqs := List (SE × SE)
def litM : SE → SE → Eqs
  | .lit a, .lit b => cond (Nat.beq a b) [] [(.lit a, .lit b)]
  | s, s' => [(s, s')]
noncomputable def jn (a b : Option Eqs) : Option Eqs := match a, b with | some a, some b => some (lapp a b) | _, _ => none
section
variable (t : Tr Nat) (nC : Nat)
noncomputable def okB (b b' : Nat) : Bool := Nat.beq (rho t b) b' && Nat.blt b nC
mutual
noncomputable def mV : AV → AV → Option Eqs
  | .any, _ => some []
  | .bool (.lit a), .bool (.lit b) => cond (a == b) (some []) none
  | .int k s, .int l s' => cond (kindEq k l) (some (litM s s')) none
  | .ptr0, .ptr0 => some []
  | .ptr b o, .ptr b' o' => cond (okB t nC b b' && Nat.beq o o') (some []) none
  | .ptrS b i s o, .ptrS b' i' s' o' => cond (okB t nC b b' && Nat.beq s s' && Nat.beq o o') (some (litM i i')) none
  | .slice0, .slice0 => some []
  | .emp z, .emp z' => cond (!z || z') (some []) none
  | .slice b o n c, .slice b' o' n' c' => cond (okB t nC b b' && Nat.beq o o' && c.eq c') (some (litM n n')) none
  | .map0, .map0 => some []
  | .map r, .map r' => cond (okB t nC r r') (some []) none
  | .chan0, .chan0 => some []
  | .chan r, .chan r' => cond (okB t nC r r') (some []) none
  | .func f a b, .func g c d => cond (Nat.beq f g) (jn (mVs a c) (mVs b d)) none
  | .nilFunc, .nilFunc => some []
  | .iface ty a, .iface ty' a' => cond (Nat.beq ty ty') (mV a a') none
  | .nilIface, .nilIface => some []
  | .agg a, .agg b => mVs a b
  | .tup a, .tup b => mVs a b
  | _, _ => none
noncomputable def mVs : List AV → List AV → Option Eqs
  | [], [] => some []
  | a :: as, b :: bs => jn (mV a b) (mVs as bs)
  | _, _ => none
end

structure RowEq where
  j : Nat
  ks : List IntKind
  n : SE
  j' : Nat
  n' : SE
  cs' : List AV
noncomputable def mP (l : List (AV × AV)) : List (AV × AV) → Option Eqs :=
  List.rec (motive := fun _ => List (AV × AV) → Option Eqs) (fun r => match r with | [] => some [] | _ => none)
    (fun p _ ih r => match r with | q :: r => jn (jn (mV t nC p.1 q.1) (mV t nC p.2 q.2)) (ih r) | [] => none) l
def sameK : List IntKind → List IntKind → Bool
  | [], [] => true
  | a :: as, b :: bs => kindEq a b && sameK as bs
  | _, _ => false
/-- A block. -/
noncomputable def mO : AO → AO → Option (Eqs × List RowEq)
  | .cells cs _ _, .cells cs' own tl => cond (own || tl) (match mVs t nC cs cs' with | some e => some (e, []) | none => none) none
  | .rows j (k :: ks) n [], .rows j' ks' n' cs' => cond (sameK (k :: ks) ks') (some ([], [⟨j, k :: ks, n, j', n', cs'⟩])) none
  | .rows j (k :: ks) n [], .cells cs' own tl => cond (own || tl) (some ([], [⟨j, k :: ks, n, j, .lit 0, cs'⟩])) none
  | .map es, .map es' => match mP t nC es es' with | some e => some (e, []) | none => none
  | .chan c buf, .chan c' buf' => cond (Nat.beq c c') (match mVs t nC buf buf' with | some e => some (e, []) | none => none) none
  | _, _ => none
noncomputable def mG (ti : Tr Nat) (l : List (Nat × AO)) (g' : G) : Option (Eqs × List RowEq) :=
  List.rec (motive := fun _ => Option (Eqs × List RowEq)) (some ([], []))
    (fun p _ ih => cond (Nat.blt p.1 nC && Nat.beq (rho ti (rho t p.1)) p.1) (match mO t nC p.2 (hget g' (rho t p.1)) with
      | some (e, r) => match ih with
        | some (e', r') => some (lapp e e', lapp r r')
        | none => none
      | none => none) none) l
noncomputable def mT (tC : Tr AV) : Tr AV → Option Eqs :=
  Tr.rec (motive := fun _ => Tr AV → Option Eqs) (fun _ => some [])
    (fun v _ _ ml mr t' => match t' with
      | .nd v' l' r' => jn (mV t nC v v') (jn (ml l') (mr r'))
      | .tip => jn (mV t nC v .any) (jn (ml .tip) (mr .tip))) tC
end
noncomputable def mkG (l : List (Nat × AO)) (nC : Nat) : G := List.rec (motive := fun _ => G) { heap := .tip, next := nC } (fun p _ ih => hset ih p.1 p.2) l

/-! ### What a match says -/
theorem sameK_eq : ∀ {a b : List IntKind}, sameK a b = true → a = b
  | [], [], _ => rfl
  | a :: as, b :: bs, h => by
    have h' : (kindEq a b && sameK as bs) = true := h
    rw [Bool.and_eq_true] at h'
    rw [kindEq_eq h'.1, sameK_eq h'.2]
  | [], _ :: _, h => by cases h
  | _ :: _, [], h => by cases h
theorem jn_some {a b : Option Eqs} {r : Eqs} (h : jn a b = some r) : ∃ x y, a = some x ∧ b = some y ∧ r = x ++ y := by
  unfold jn at h
  split at h
  · rename_i x y
    cases h
    exact ⟨x, y, rfl, rfl, by rw [lapp_eq]⟩
  · cases h
/-- The equations hold. -/
def EqsOK (e2 e' : Env) (l : Eqs) : Prop := ∀ p ∈ l, p.1.ev e2 = p.2.ev e'
theorem EqsOK.left {e2 e' : Env} {a b : Eqs} (h : EqsOK e2 e' (a ++ b)) : EqsOK e2 e' a := fun p hp => h p (List.mem_append_left _ hp)
theorem EqsOK.right {e2 e' : Env} {a b : Eqs} (h : EqsOK e2 e' (a ++ b)) : EqsOK e2 e' b := fun p hp => h p (List.mem_append_right _ hp)
theorem litM_ok {e2 e' : Env} {s s' : SE} (h : EqsOK e2 e' (litM s s')) : s.ev e2 = s'.ev e' := by
  unfold litM at h
  split at h
  · rename_i a b
    cases hb : Nat.beq a b
    · rw [hb] at h; exact h _ List.mem_cons_self
    · rw [beq_t hb]; rfl
  · exact h _ List.mem_cons_self
/-- The other environment. -/
noncomputable def Env.re (e' : Env) (t : Tr Nat) (nC : Nat) (v : Nat → Nat) (arr : Nat → Nat → Nat → Nat) : Env :=
  { blk := fun b => cond (Nat.blt b nC) (e'.blk (rho t b)) none, v, arr, nx := nC }
theorem re_blk {e' : Env} {t : Tr Nat} {nC b b' : Nat} {v : Nat → Nat} {arr : Nat → Nat → Nat → Nat} (h : okB t nC b b' = true) : (e'.re t nC v arr).blk b = e'.blk b' := by
  unfold okB at h
  rw [Bool.and_eq_true] at h
  show cond (Nat.blt b nC) (e'.blk (rho t b)) none = _
  rw [h.2, cond_true, beq_t h.1]

section
variable {e' e2 : Env} {t : Tr Nat} {nC : Nat}
mutual
theorem mV_sound (hb : ∀ {b b'}, okB t nC b b' = true → e2.blk b = e'.blk b') : ∀ (a a' : AV) (r : Eqs) (x : Value), mV t nC a a' = some r → EqsOK e2 e' r → VR e' a' x → VR e2 a x
  | .any, _, _, _, _, _, _ => trivial
  | .bool s, a', r, x, h, he, hv => by
    cases s with
    | lit b =>
      cases a' <;> first | (simp [mV] at h; done) | skip
      rename_i s'
      cases s' <;> first | (simp [mV] at h; done) | skip
      rename_i b'
      simp only [mV] at h
      cases hq : (b == b')
      · rw [hq] at h; cases h
      · cases beq_iff_eq.1 hq
        exact hv
    | _ => cases a' <;> first | (simp [mV] at h; done) | (rename_i s'; cases s' <;> simp [mV] at h)
  | .int k s, a', r, x, h, he, hv => by
    cases a' <;> simp only [mV] at h <;> try cases h
    rename_i l s'
    cases hk : kindEq k l
    · rw [hk] at h; cases h
    · rw [hk] at h
      cases h
      cases kindEq_eq hk
      obtain ⟨h1, h2⟩ := hv
      have := litM_ok he
      exact ⟨by rw [this]; exact h1, by rw [this]; exact h2⟩
  | .ptr0, a', r, x, h, he, hv => by cases a' <;> simp [mV] at h; exact hv
  | .ptr b o, a', r, x, h, he, hv => by
    cases a' <;> simp only [mV] at h <;> try cases h
    rename_i b' o'
    cases hq : (okB t nC b b' && Nat.beq o o')
    · rw [hq] at h; cases h
    · rw [Bool.and_eq_true] at hq
      obtain ⟨c, n, h1, h2⟩ := hv
      rw [← hb hq.1] at h1
      exact ⟨c, n, h1, by rw [beq_t hq.2]; exact h2⟩
  | .ptrS b i s o, a', r, x, h, he, hv => by
    cases a' <;> simp only [mV] at h <;> try cases h
    rename_i b' i' s' o'
    cases hq : (okB t nC b b' && Nat.beq s s' && Nat.beq o o')
    · rw [hq] at h; cases h
    · rw [hq] at h
      cases h
      simp only [Bool.and_eq_true] at hq
      obtain ⟨c, n, h1, h2⟩ := hv
      rw [← hb hq.1.1] at h1
      exact ⟨c, n, h1, by rw [litM_ok he, beq_t hq.1.2, beq_t hq.2]; exact h2⟩
  | .slice0, a', r, x, h, he, hv => by cases a' <;> simp [mV] at h; exact hv
  | .emp z, a', r, x, h, he, hv => by
    cases a' <;> simp only [mV] at h <;> try cases h
    rename_i z'
    cases hq : (!z || z')
    · rw [hq] at h; cases h
    · obtain ⟨ad, c, h1, h2⟩ := hv
      refine ⟨ad, c, h1, fun hz => h2 ?_⟩
      subst hz
      simpa using hq
  | .slice b o n c, a', r, x, h, he, hv => by
    cases a' <;> simp only [mV] at h <;> try cases h
    rename_i b' o' n' c'
    cases hq : (okB t nC b b' && Nat.beq o o' && c.eq c')
    · rw [hq] at h; cases h
    · rw [hq] at h
      cases h
      simp only [Bool.and_eq_true] at hq
      have hn := litM_ok he
      cases ACap.eq_eq hq.2
      cases beq_t hq.1.2
      have hbb := hb hq.1.1
      cases c with
      | known k =>
        obtain ⟨c, m, h1, h2, h3⟩ := hv
        exact ⟨c, m, by rw [hbb]; exact h1, by rw [hn]; exact h2, by rw [hn]; exact h3⟩
      | room k =>
        obtain ⟨c, m, p, h1, h2, h3⟩ := hv
        exact ⟨c, m, p, by rw [hbb]; exact h1, by rw [hn]; exact h2, by rw [hn]; exact h3⟩
  | .map0, a', r, x, h, he, hv => by cases a' <;> simp [mV] at h; exact hv
  | .map b, a', r, x, h, he, hv => by
    cases a' <;> simp only [mV] at h <;> try cases h
    rename_i b'
    cases hq : okB t nC b b'
    · rw [hq] at h; cases h
    · obtain ⟨c, n, h1, h2⟩ := hv
      rw [← hb hq] at h1
      exact ⟨c, n, h1, h2⟩
  | .chan0, a', r, x, h, he, hv => by cases a' <;> simp [mV] at h; exact hv
  | .chan b, a', r, x, h, he, hv => by
    cases a' <;> simp only [mV] at h <;> try cases h
    rename_i b'
    cases hq : okB t nC b b'
    · rw [hq] at h; cases h
    · obtain ⟨c, n, h1, h2⟩ := hv
      rw [← hb hq] at h1
      exact ⟨c, n, h1, h2⟩
  | .func f a b, a', r, x, h, he, hv => by
    cases a' <;> simp only [mV] at h <;> try cases h
    rename_i g c d
    cases hq : Nat.beq f g
    · rw [hq] at h; cases h
    · rw [hq, cond_true] at h
      obtain ⟨x1, y1, h1, h2, rfl⟩ := jn_some h
      obtain ⟨xs, ys, k1, k2, k3⟩ := hv
      exact ⟨xs, ys, by rw [beq_t hq]; exact k1, mVs_sound hb a c x1 _ h1 he.left k2, mVs_sound hb b d y1 _ h2 he.right k3⟩
  | .yield l, a', r, x, h, he, hv => by cases a' <;> simp [mV] at h
  | .nilFunc, a', r, x, h, he, hv => by cases a' <;> simp [mV] at h; exact hv
  | .iface ty a, a', r, x, h, he, hv => by
    cases a' <;> simp only [mV] at h <;> try cases h
    rename_i ty' b
    cases hq : Nat.beq ty ty'
    · rw [hq] at h; cases h
    · rw [hq, cond_true] at h
      obtain ⟨y, k1, k2⟩ := hv
      exact ⟨y, by rw [beq_t hq]; exact k1, mV_sound hb a b r _ h he k2⟩
  | .nilIface, a', r, x, h, he, hv => by cases a' <;> simp [mV] at h; exact hv
  | .agg a, a', r, x, h, he, hv => by
    cases a' <;> simp only [mV] at h <;> try cases h
    rename_i b
    obtain ⟨xs, k1, k2⟩ := hv
    exact ⟨xs, k1, mVs_sound hb a b r _ h he k2⟩
  | .tup a, a', r, x, h, he, hv => by
    cases a' <;> simp only [mV] at h <;> try cases h
    rename_i b
    obtain ⟨xs, k1, k2⟩ := hv
    exact ⟨xs, k1, mVs_sound hb a b r _ h he k2⟩
theorem mVs_sound (hb : ∀ {b b'}, okB t nC b b' = true → e2.blk b = e'.blk b') : ∀ (a a' : List AV) (r : Eqs) (x : List Value), mVs t nC a a' = some r → EqsOK e2 e' r → VRs e' a' x → VRs e2 a x
  | [], [], _, [], _, _, _ => trivial
  | [], [], _, _ :: _, _, _, h => h.elim
  | a :: as, b :: bs, r, [], h, he, hv => hv.elim
  | a :: as, b :: bs, r, x :: xs, h, he, hv => by
    have h' : jn (mV t nC a b) (mVs t nC as bs) = some r := by simpa only [mVs] using h
    obtain ⟨x1, y1, h1, h2, rfl⟩ := jn_some h'
    exact ⟨mV_sound hb a b x1 x h1 he.left hv.1, mVs_sound hb as bs y1 xs h2 he.right hv.2⟩
  | [], _ :: _, _, _, h, _, _ => by simp [mVs] at h
  | _ :: _, [], _, _, h, _, _ => by simp [mVs] at h
end
variable (hb : ∀ {b b'}, okB t nC b b' = true → e2.blk b = e'.blk b')
include hb
theorem mP_sound : ∀ (l l' : List (AV × AV)) (r : Eqs) (x : List MapEntry), mP t nC l l' = some r → EqsOK e2 e' r → ER e' l' x → ER e2 l x
  | [], [], _, [], _, _, _ => trivial
  | [], [], _, _ :: _, _, _, h => h.elim
  | [], _ :: _, _, _, h, _, _ => by cases h
  | a :: as, b :: bs, r, [], _, _, h => h.elim
  | a :: as, b :: bs, r, x :: xs, h, he, hv => by
    have h' : jn (jn (mV t nC a.1 b.1) (mV t nC a.2 b.2)) (mP t nC as bs) = some r := h
    obtain ⟨x1, y1, h1, h2, rfl⟩ := jn_some h'
    obtain ⟨x2, y2, h3, h4, rfl⟩ := jn_some h1
    exact ⟨mV_sound hb a.1 b.1 x2 _ h3 he.left.left hv.1, mV_sound hb a.2 b.2 y2 _ h4 he.left.right hv.2.1, mP_sound as bs y1 xs h2 he.right hv.2.2⟩
  | _ :: _, [], _, _, h, _, _ => by cases h

/-- What there was of rows, and what lay behind them, is the rows that there are now. -/
def RowEq.ok (r : RowEq) (e2 e' : Env) : Prop :=
  r.n.ev e2 * r.ks.length = r.n'.ev e' * r.ks.length + r.cs'.length ∧ r.n.ev e2 < 2 ^ 60 ∧
  (∀ q, q < r.n'.ev e' → ∀ (c : Nat) k, r.ks[c]? = some k → e2.arr r.j c q = e'.arr r.j' c q) ∧
  (∀ (d c : Nat) k v, r.ks[c]? = some k → r.cs'[d * r.ks.length + c]? = some v → ∃ s, v = .int k s ∧ e2.arr r.j c (r.n'.ev e' + d) = s.ev e')
omit hb in
theorem rows_sound {P : Program} {j m j' : Nat} {ks : List IntKind} {n n' : SE} {cs' : List AV} {arr : Array Value} {el : TypeId} (hok : (RowEq.mk j ks n j' n' cs').ok e2 e')
    (h1 : arr.size = m) (h2 : n'.ev e' * ks.length + cs'.length ≤ m) (h4 : RowsR e' j' ks (n'.ev e') arr) (h5 : VRs e' cs' ((arr.toList.drop (n'.ev e' * ks.length)).take cs'.length)) :
    OR P e2 (.rows j ks n []) m (.cells arr el (0, 0)) := by
  obtain ⟨q1, q2, q3, q4⟩ := hok
  simp only at q1 q2 q3 q4
  refine ⟨h1, by simp; omega, by simpa using q2, fun q hq c k hc => ?_, trivial, rfl⟩
  have hcl : c < ks.length := (List.getElem?_eq_some_iff.1 hc).1
  by_cases hlt : q < n'.ev e'
  · obtain ⟨r1, r2⟩ := h4 q hlt c k hc
    rw [q3 q hlt c k hc]
    exact ⟨r1, r2⟩
  · -- behind the rows
    have hge : n'.ev e' ≤ q := Nat.le_of_not_lt hlt
    obtain ⟨d, rfl⟩ := Nat.exists_eq_add_of_le hge
    have hmul : (n'.ev e' + d + 1) * ks.length ≤ n.ev e2 * ks.length := Nat.mul_le_mul_right _ hq
    rw [Nat.add_mul, Nat.add_mul] at hmul
    have hlt2 : d * ks.length + c < cs'.length := by omega
    obtain ⟨s, hs1, hs2⟩ := q4 d c k _ hc (List.getElem?_eq_getElem hlt2)
    obtain ⟨x, hx, hv⟩ := h5.get (List.getElem?_eq_getElem hlt2)
    rw [hs1] at hv
    obtain ⟨hv1, hv2⟩ := hv.int
    rw [hs2]
    refine ⟨?_, hv2⟩
    rw [List.getElem?_take_of_lt hlt2, List.getElem?_drop] at hx
    rw [← hv1, ← hx, Nat.add_mul, Nat.add_assoc]
    simp
theorem mO_sound {P : Program} {o o' : AO} {r : Eqs} {rs : List RowEq} {m : Nat} {ob : Obj} (h : mO t nC o o' = some (r, rs)) (he : EqsOK e2 e' r) (hr : ∀ x ∈ rs, x.ok e2 e') (hor : OR P e' o' m ob) : OR P e2 o m ob := by
  unfold mO at h
  split at h
  · rename_i cs _ _ cs' own tl
    cases hq : (own || tl)
    · rw [hq] at h; cases h
    · rw [hq, cond_true] at h
      split at h
      · rename_i e1 hm
        cases h
        cases ob with
        | cells arr el fz =>
          obtain ⟨h1, h2, h3, h4⟩ := hor
          have hl : cs.length = cs'.length := by
            have : ∀ (a b : List AV) (r : Eqs), mVs t nC a b = some r → a.length = b.length := by
              intro a
              induction a with
              | nil => intro b r h; cases b with | nil => rfl | cons _ _ => simp [mVs] at h
              | cons x a ih =>
                intro b r h
                cases b with
                | nil => simp [mVs] at h
                | cons y b =>
                  have h' : jn (mV t nC x y) (mVs t nC a b) = some r := by simpa only [mVs] using h
                  obtain ⟨_, _, _, h2, _⟩ := jn_some h'
                  simp [ih b _ h2]
            exact this cs cs' _ hm
          exact ⟨h1, by omega, by rw [hl]; exact mVs_sound hb cs cs' _ _ hm he h3, h4⟩
        | _ => exact hor.elim
      · cases h
  · rename_i j k ks n j' ks' n' cs'
    cases hq : sameK (k :: ks) ks'
    · rw [hq] at h; cases h
    · rw [hq] at h
      cases h
      cases sameK_eq hq
      cases ob with
      | cells arr el fz =>
        obtain ⟨h1, h2, h3, h4, h5, h6⟩ := hor
        subst h6
        exact rows_sound (hr _ List.mem_cons_self) h1 h2 h4 h5
      | _ => exact hor.elim
  · rename_i j k ks n cs' own tl
    cases hq : (own || tl)
    · rw [hq] at h; cases h
    · rw [hq] at h
      cases h
      cases ob with
      | cells arr el fz =>
        obtain ⟨h1, h2, h3, h4⟩ := hor
        subst h4
        refine rows_sound (j' := j) (n' := .lit 0) (hr _ List.mem_cons_self) h1 (by simpa [SE.ev] using h2) (fun q hq => by simp [SE.ev] at hq) (by simpa [SE.ev] using h3)
      | _ => exact hor.elim
  · rename_i es es'
    split at h
    · rename_i e1 hm
      cases h
      cases ob with
      | map entries lf => exact mP_sound hb es es' _ _ hm he hor
      | _ => exact hor.elim
    · cases h
  · rename_i c buf c' buf'
    cases hq : Nat.beq c c'
    · rw [hq] at h; cases h
    · rw [hq, cond_true] at h
      split at h
      · rename_i e1 hm
        cases h
        cases ob with
        | chan _ _ _ _ _ _ =>
          obtain ⟨h1, h2, h3, h4⟩ := hor
          exact ⟨by rw [h1, beq_t hq], h2, h3, mVs_sound hb buf buf' _ _ hm he h4⟩
        | _ => exact hor.elim
      · cases h
  · cases h
end

/-! ### A heap -/
variable {P : Program} {R : Nat → Prop}
theorem mkG_next (l : List (Nat × AO)) (nC : Nat) : (mkG l nC).next = nC := by
  induction l with
  | nil => rfl
  | cons p l ih => exact ih
theorem mkG_get (l : List (Nat × AO)) (nC b : Nat) (h : hget (mkG l nC) b ≠ .none) : ∃ p ∈ l, p.1 = b ∧ hget (mkG l nC) b = p.2 := by
  induction l with
  | nil => exact absurd rfl h
  | cons p l ih =>
    have e : hget (mkG (p :: l) nC) b = if p.1 = b then p.2 else hget (mkG l nC) b := hget_hset (mkG l nC) p.1 b p.2
    rw [e] at h ⊢
    by_cases hp : p.1 = b
    · rw [if_pos hp] at h ⊢; exact ⟨p, List.mem_cons_self, hp, rfl⟩
    · rw [if_neg hp] at h ⊢
      obtain ⟨q, h1, h2⟩ := ih h
      exact ⟨q, List.mem_cons_of_mem _ h1, h2⟩
theorem mG_mem {t ti : Tr Nat} {nC : Nat} {g' : G} : ∀ {l : List (Nat × AO)} {e : Eqs} {r : List RowEq}, mG t nC ti l g' = some (e, r) → ∀ p ∈ l,
    p.1 < nC ∧ rho ti (rho t p.1) = p.1 ∧ ∃ e1 r1, mO t nC p.2 (hget g' (rho t p.1)) = some (e1, r1) ∧ (∀ x ∈ e1, x ∈ e) ∧ (∀ x ∈ r1, x ∈ r)
  | [], _, _, _, _, hp => by cases hp
  | q :: l, e, r, h, p, hp => by
    have h' : cond (Nat.blt q.1 nC && Nat.beq (rho ti (rho t q.1)) q.1) (match mO t nC q.2 (hget g' (rho t q.1)) with
      | some (e, r) => match mG t nC ti l g' with
        | some (e', r') => some (lapp e e', lapp r r')
        | none => none
      | none => none) none = some (e, r) := h
    cases hc : (Nat.blt q.1 nC && Nat.beq (rho ti (rho t q.1)) q.1)
    · rw [hc] at h'; cases h'
    · rw [hc, cond_true] at h'
      rw [Bool.and_eq_true] at hc
      cases hm : mO t nC q.2 (hget g' (rho t q.1)) with
      | none => rw [hm] at h'; cases h'
      | some er =>
        obtain ⟨e1, r1⟩ := er
        rw [hm] at h'
        simp only at h'
        cases hi : mG t nC ti l g' with
        | none => rw [hi] at h'; cases h'
        | some er =>
          obtain ⟨e2, r2⟩ := er
          rw [hi] at h'
          cases h'
          rw [lapp_eq, lapp_eq]
          rcases List.mem_cons.1 hp with rfl | hp
          · exact ⟨blt_lt hc.1, beq_t hc.2, e1, r1, hm, fun x hx => List.mem_append_left _ hx, fun x hx => List.mem_append_left _ hx⟩
          · obtain ⟨k1, k2, e3, r3, k3, k4, k5⟩ := mG_mem hi p hp
            exact ⟨k1, k2, e3, r3, k3, fun x hx => List.mem_append_right _ (k4 x hx), fun x hx => List.mem_append_right _ (k5 x hx)⟩
/-- What is seen as a block lies alone. -/
theorem mO_alone {t : Tr Nat} {nC : Nat} {o o' : AO} {x : Eqs × List RowEq} (h : mO t nC o o' = some x) : o' ≠ .none ∧ ∀ cs, o' ≠ .cells cs false false := by
  unfold mO at h
  split at h
  · rename_i cs _ _ cs' own tl
    refine ⟨fun h => (by cases h), fun c hc => ?_⟩
    cases hc
    cases h
  · exact ⟨fun h => (by cases h), fun c hc => (by cases hc)⟩
  · rename_i j k ks n cs' own tl
    refine ⟨fun h => (by cases h), fun c hc => ?_⟩
    cases hc
    cases h
  · exact ⟨fun h => (by cases h), fun c hc => (by cases hc)⟩
  · exact ⟨fun h => (by cases h), fun c hc => (by cases hc)⟩
  · cases h
/-- The world seen under other names. -/
theorem Sim.recast {e' : Env} {g' : G} {W : World} (h : Sim P R e' g' W) {l : List (Nat × AO)} {t ti : Tr Nat} {nC : Nat} {v : Nat → Nat} {arr : Nat → Nat → Nat → Nat} {eqs : Eqs} {rows : List RowEq}
    (hg : mG t nC ti l g' = some (eqs, rows)) (he : EqsOK (e'.re t nC v arr) e' eqs) (hr : ∀ r ∈ rows, r.ok (e'.re t nC v arr) e') : Sim P R (e'.re t nC v arr) (mkG l nC) W := by
  have blk : ∀ b, b < nC → (e'.re t nC v arr).blk b = e'.blk (rho t b) := fun b hb => by
    show cond (Nat.blt b nC) (e'.blk (rho t b)) none = _
    rw [show Nat.blt b nC = true by simpa [Nat.blt_eq] using hb]; rfl
  refine ⟨fun b hb => ?_, fun b1 b2 c n1 n2 hd hx hy h1 h2 => ?_, fun b hb => ?_, h.up, by rw [mkG_next]; rfl⟩
  · obtain ⟨p, hp, rfl, ho⟩ := mkG_get l nC b hb
    obtain ⟨k1, k2, e1, r1, k3, k4, k5⟩ := mG_mem hg p hp
    obtain ⟨c, n, ob, j1, j2, j3, j4⟩ := h.obj (rho t p.1) (mO_alone k3).1
    refine ⟨c, n, ob, by rw [blk _ k1]; exact j1, j2, j3, ?_⟩
    rw [ho]
    exact mO_sound (fun hb => re_blk hb) k3 (fun x hx => he x (k4 x hx)) (fun x hx => hr x (k5 x hx)) j4
  · exfalso
    obtain ⟨p, hp, rfl, _⟩ := mkG_get l nC b1 hx
    obtain ⟨q, hq, rfl, _⟩ := mkG_get l nC b2 hy
    obtain ⟨k1, k2, _, _, k3, _⟩ := mG_mem hg p hp
    obtain ⟨j1, j2, _, _, j3, _⟩ := mG_mem hg q hq
    rw [blk _ k1] at h1
    rw [blk _ j1] at h2
    have hne : rho t p.1 ≠ rho t q.1 := fun he => hd (by rw [← k2, ← j2, he])
    obtain ⟨cs, tl, cs', tl', s1, s2, _, _, s3⟩ := h.apart _ _ _ _ _ hne (mO_alone k3).1 (mO_alone j3).1 h1 h2
    cases tl
    · exact (mO_alone k3).2 _ s1
    · cases tl'
      · exact (mO_alone j3).2 _ s2
      · cases s3
  · have hb' : nC ≤ b := by rw [mkG_next] at hb; exact hb
    show cond (Nat.blt b nC) (e'.blk (rho t b)) none = none
    have : Nat.blt b nC = false := by
      cases hq : Nat.blt b nC
      · rfl
      · have := blt_lt hq; omega
    rw [this]; rfl
/-- The temporaries seen under other names. -/
theorem mT_get {t : Tr Nat} {nC : Nat} : ∀ {tC t' : Tr AV} {e : Eqs}, mT t nC tC t' = some e → ∀ p, tC.getK .any p = .any ∨ ∃ e1, mV t nC (tC.getK .any p) (t'.getK .any p) = some e1 ∧ ∀ x ∈ e1, x ∈ e
  | .tip, t', e, h, p => .inl rfl
  | .nd v l r, .nd v' l' r', e, h, p => by
    have h' : jn (mV t nC v v') (jn (mT t nC l l') (mT t nC r r')) = some e := h
    obtain ⟨e1, e2, h1, h2, rfl⟩ := jn_some h'
    obtain ⟨e3, e4, h3, h4, rfl⟩ := jn_some h2
    cases p with
    | nil => exact .inr ⟨e1, h1, fun x hx => List.mem_append_left _ hx⟩
    | cons b p =>
      cases b with
      | false =>
        rcases mT_get h3 p with h | ⟨e5, h5, h6⟩
        · exact .inl h
        · exact .inr ⟨e5, h5, fun x hx => List.mem_append_right _ (List.mem_append_left _ (h6 x hx))⟩
      | true =>
        rcases mT_get h4 p with h | ⟨e5, h5, h6⟩
        · exact .inl h
        · exact .inr ⟨e5, h5, fun x hx => List.mem_append_right _ (List.mem_append_right _ (h6 x hx))⟩
  | .nd v l r, .tip, e, h, p => by
    have h' : jn (mV t nC v .any) (jn (mT t nC l .tip) (mT t nC r .tip)) = some e := h
    obtain ⟨e1, e2, h1, h2, rfl⟩ := jn_some h'
    obtain ⟨e3, e4, h3, h4, rfl⟩ := jn_some h2
    cases p with
    | nil => exact .inr ⟨e1, h1, fun x hx => List.mem_append_left _ hx⟩
    | cons b p =>
      cases b with
      | false =>
        rcases mT_get h3 p with h | ⟨e5, h5, h6⟩
        · exact .inl h
        · exact .inr ⟨e5, h5, fun x hx => List.mem_append_right _ (List.mem_append_left _ (h6 x hx))⟩
      | true =>
        rcases mT_get h4 p with h | ⟨e5, h5, h6⟩
        · exact .inl h
        · exact .inr ⟨e5, h5, fun x hx => List.mem_append_right _ (List.mem_append_right _ (h6 x hx))⟩
theorem TR.recast {e' : Env} {t' tC : Tr AV} {a : Array Value} (h : TR e' t' a) {t : Tr Nat} {nC : Nat} {v : Nat → Nat} {arr : Nat → Nat → Nat → Nat} {eqs : Eqs} (ht : mT t nC tC t' = some eqs)
    (he : EqsOK (e'.re t nC v arr) e' eqs) : TR (e'.re t nC v arr) tC a := by
  intro i hi
  rcases mT_get ht (pathOf i) with h1 | ⟨e1, h1, h2⟩
  · rw [h1]; trivial
  · exact mV_sound (fun hb => re_blk hb) _ _ e1 _ h1 (fun x hx => he x (h2 x hx)) (h i hi)
/-- A frame seen under other names. -/
theorem Here.recast {e' : Env} {g' : G} {W : World} {asm' asm2 : Asm} {t' tC : Tr AV} {a : Act} {nt : Nat} (H : Here P R e' g' W asm' t' a nt) {l : List (Nat × AO)} {t ti : Tr Nat} {nC : Nat} {v : Nat → Nat}
    {arr : Nat → Nat → Nat → Nat} {eqs eqs2 : Eqs} {rows : List RowEq} (hg : mG t nC ti l g' = some (eqs, rows)) (ht : mT t nC tC t' = some eqs2) (he : EqsOK (e'.re t nC v arr) e' eqs)
    (he2 : EqsOK (e'.re t nC v arr) e' eqs2) (hr : ∀ r ∈ rows, r.ok (e'.re t nC v arr) e') (ha : AsmOK (e'.re t nC v arr) asm2) : Here P R (e'.re t nC v arr) (mkG l nC) W asm2 tC a nt :=
  ⟨H.sim.recast hg he hr, H.tr.recast ht he2, H.nt, ha⟩
end Go.Sx
/-
  What is known of calls and of code is used by the evaluator; loops, by states under other names.
-/
namespace Go.Sx
open Go

/-! ### Residues, told by the variables alone -/
def SE.evv (v : Nat → Nat) (arr : Nat → Nat → Nat → Nat) : SE → Nat
  | .lit n => n
  | .var k i => v i % md k
  | .sel k j c i => arr j c (i.evv v arr) % md k
  | .bin o k a b => opN o k (a.evv v arr) (b.evv v arr)
  | .conv s d a => convN s d (a.evv v arr)
theorem SE.ev_eq (e : Env) : ∀ s : SE, s.ev e = s.evv e.v e.arr
  | .lit n => rfl
  | .var k i => rfl
  | .sel k j c i => by simp [SE.ev, SE.evv, SE.ev_eq e i]
  | .bin o k a b => by simp [SE.ev, SE.evv, SE.ev_eq e a, SE.ev_eq e b]
  | .conv s d a => by simp [SE.ev, SE.evv, SE.ev_eq e a]
open Classical in
noncomputable def SB.evv (v : Nat → Nat) (arr : Nat → Nat → Nat → Nat) : SB → Bool
  | .lit b => b
  | .cmp o k a b => cmpN o k (a.evv v arr) (b.evv v arr)
  | .not s => !s.evv v arr
  | .prop p => decide (p v arr)
theorem SB.ev_eq (e : Env) : ∀ s : SB, s.ev e = s.evv e.v e.arr
  | .lit b => rfl
  | .cmp o k a b => by simp [SB.ev, SB.evv, SE.ev_eq]
  | .not s => by simp [SB.ev, SB.evv, SB.ev_eq e s]
  | .prop p => rfl
def AsmV (asm : Asm) (v : Nat → Nat) (arr : Nat → Nat → Nat → Nat) : Prop := ∀ p ∈ asm, p.1.evv v arr = p.2
theorem AsmV.ok {asm : Asm} {e : Env} (h : AsmV asm e.v e.arr) : AsmOK e asm := fun p hp => by rw [SB.ev_eq]; exact h p hp
theorem AsmOK.v {asm : Asm} {e : Env} (h : AsmOK e asm) : AsmV asm e.v e.arr := fun p hp => by rw [← SB.ev_eq]; exact h p hp
def EqsV (l : Eqs) (v2 : Nat → Nat) (arr2 : Nat → Nat → Nat → Nat) (v : Nat → Nat) (arr : Nat → Nat → Nat → Nat) : Prop := ∀ p ∈ l, p.1.evv v2 arr2 = p.2.evv v arr
theorem EqsV.ok {l : Eqs} {e2 e : Env} (h : EqsV l e2.v e2.arr e.v e.arr) : EqsOK e2 e l := fun p hp => by rw [SE.ev_eq, SE.ev_eq]; exact h p hp
def RowEq.okV (r : RowEq) (v2 : Nat → Nat) (arr2 : Nat → Nat → Nat → Nat) (v : Nat → Nat) (arr : Nat → Nat → Nat → Nat) : Prop :=
  r.n.evv v2 arr2 * r.ks.length = r.n'.evv v arr * r.ks.length + r.cs'.length ∧ r.n.evv v2 arr2 < 2 ^ 60 ∧
  (∀ q, q < r.n'.evv v arr → ∀ (c : Nat) k, r.ks[c]? = some k → arr2 r.j c q = arr r.j' c q) ∧
  (∀ (d c : Nat) k w, r.ks[c]? = some k → r.cs'[d * r.ks.length + c]? = some w → ∃ s, w = .int k s ∧ arr2 r.j c (r.n'.evv v arr + d) = s.evv v arr)
theorem RowEq.okV.ok {r : RowEq} {e2 e : Env} (h : r.okV e2.v e2.arr e.v e.arr) : r.ok e2 e := by
  obtain ⟨h1, h2, h3, h4⟩ := h
  refine ⟨by rw [SE.ev_eq, SE.ev_eq]; exact h1, by rw [SE.ev_eq]; exact h2, fun q hq => h3 q (by rw [← SE.ev_eq]; exact hq), fun d c k w hk hw => ?_⟩
  obtain ⟨s, hs1, hs2⟩ := h4 d c k w hk hw
  exact ⟨s, hs1, by rw [SE.ev_eq, SE.ev_eq]; exact hs2⟩
def RowsV (l : List RowEq) (v2 : Nat → Nat) (arr2 : Nat → Nat → Nat → Nat) (v : Nat → Nat) (arr : Nat → Nat → Nat → Nat) : Prop := ∀ r ∈ l, r.okV v2 arr2 v arr

/-! ### What a call, what code comes to -/
section
variable (P : Program) (asm : Asm)
def CallTo (f : FuncId) (as : List AV) (g : G) (v : AV) (g' : G) : Prop :=
  ∀ ⦃R : Nat → Prop⦄ ⦃e : Env⦄ ⦃W : World⦄ ⦃xs : Array Value⦄, AsmOK e asm → Sim P R e g W → VRs e as xs.toList → ∃ e' x W', e.Le e' ∧ VR e' v x ∧ Sim P R e' g' W' ∧ Keep R W W' ∧ CallDone P f xs W x W'
def CodeTo (cd : XCode) (fn : FuncId) (t : Tr AV) (g : G) (ex : Ex) (t' : Tr AV) (g' : G) : Prop :=
  ∀ ⦃R : Nat → Prop⦄ ⦃e : Env⦄ ⦃W : World⦄ ⦃c : Ctx⦄ ⦃nt : Nat⦄ ⦃code : Code⦄ ⦃a : Act⦄, compC P nt code = some cd → c.fn = fn → c.rd = none → Here P R e g W asm t a nt → a.defers = [] →
    ∃ e' a' W', e.Le e' ∧ Here P R e' g' W' asm t' a' nt ∧ Keep R W W' ∧ a'.defers = [] ∧ ArrC P c code a W ex a' W'
end
variable {P : Program} {asm : Asm} {rc : Cmd → Out} {fn : FuncId} {t t1 t' : Tr AV} {g g1 g' : G} {ex : Ex}

theorem DRs.none_eq {e : Env} {D : List Deferred} (h : DRs e [] D) : D = [] := by cases h; rfl
theorem CodeTo.of (S : Snd P asm rc) {cd : XCode} (h : rc (.code cd fn none t [] g) = .code ex t' [] g') : CodeTo P asm cd fn t g ex t' g' := by
  intro R e W c nt code a hc hfn hrd H hd
  obtain ⟨e', a', W', h1, h2, h3, h4, h5⟩ := (S.code h).2 hc hfn (by rw [hrd]) (.inl rfl) H (by rw [hd]; exact All2.nil)
  exact ⟨e', a', W', h1, h2, h3, h4.none_eq, h5⟩
theorem CallTo.of (S : Snd P asm rc) {f : FuncId} {as : List AV} {v : AV} (h : rc (.call f as g) = .val v g') : CallTo P asm f as g v g' := fun _ _ _ _ ha hS hx => S.call h ha hS hx
theorem compC_seq {nt : Nat} {code : Code} {a b : XCode} (h : compC P nt code = some (.seq a b)) : ∃ x y, code = .seq x y ∧ compC P nt x = some a ∧ compC P nt y = some b := by
  cases code <;> simp only [compC] at h <;> try (cases h; done)
  case seq x y =>
    split at h
    · rename_i xa xb h1 h2
      cases h
      exact ⟨x, y, rfl, h1, h2⟩
    · cases h
  case region id ops draw =>
    cases draw <;> obtain ⟨_, _, h2⟩ := map_some h <;> cases h2
  case cond c x y =>
    split at h
    · cases h
    · cases h
  case block i x => obtain ⟨_, _, h2⟩ := map_some h; cases h2
  case loop x => obtain ⟨_, _, h2⟩ := map_some h; cases h2
  case rangeFunc f ps x y =>
    split at h
    · obtain ⟨_, h2⟩ := cond_some_none h; cases h2
    · cases h
theorem compC_block {nt : Nat} {code : Code} {i : Nat} {a : XCode} (h : compC P nt code = some (.block i a)) : ∃ x, code = .block i x ∧ compC P nt x = some a := by
  cases code <;> simp only [compC] at h <;> try (cases h; done)
  case seq x y =>
    split at h
    · cases h
    · cases h
  case region id ops draw =>
    cases draw <;> obtain ⟨_, _, h2⟩ := map_some h <;> cases h2
  case cond c x y =>
    split at h
    · cases h
    · cases h
  case block j x => obtain ⟨y, h1, h2⟩ := map_some h; cases h2; exact ⟨x, rfl, h1⟩
  case loop x => obtain ⟨_, _, h2⟩ := map_some h; cases h2
  case rangeFunc f ps x y =>
    split at h
    · obtain ⟨_, h2⟩ := cond_some_none h; cases h2
    · cases h
theorem compC_loop {nt : Nat} {code : Code} {a : XCode} (h : compC P nt code = some (.loop a)) : ∃ x, code = .loop x ∧ compC P nt x = some a := by
  cases code <;> simp only [compC] at h <;> try (cases h; done)
  case seq x y =>
    split at h
    · cases h
    · cases h
  case region id ops draw =>
    cases draw <;> obtain ⟨_, _, h2⟩ := map_some h <;> cases h2
  case cond c x y =>
    split at h
    · cases h
    · cases h
  case block j x => obtain ⟨_, _, h2⟩ := map_some h; cases h2
  case loop x => obtain ⟨y, h1, h2⟩ := map_some h; cases h2; exact ⟨x, rfl, h1⟩
  case rangeFunc f ps x y =>
    split at h
    · obtain ⟨_, h2⟩ := cond_some_none h; cases h2
    · cases h
theorem CodeTo.seq {a b : XCode} (h : CodeTo P asm a fn t g .normal t1 g1) (k : CodeTo P asm b fn t1 g1 ex t' g') : CodeTo P asm (.seq a b) fn t g ex t' g' := by
  intro R e W c nt code ac hc hfn hrd H hd
  obtain ⟨x, y, rfl, h1, h2⟩ := compC_seq hc
  obtain ⟨e1, a1, W1, l1, H1, K1, D1, A1⟩ := h h1 hfn hrd H hd
  obtain ⟨e2, a2, W2, l2, H2, K2, D2, A2⟩ := k h2 hfn hrd H1 D1
  exact ⟨e2, a2, W2, l1.trans l2, H2, K1.trans K2, D2, A1.seq1 A2⟩
theorem CodeTo.seqOut {a b : XCode} (h : CodeTo P asm a fn t g ex t' g') (hn : ex ≠ .normal) : CodeTo P asm (.seq a b) fn t g ex t' g' := by
  intro R e W c nt code ac hc hfn hrd H hd
  obtain ⟨x, y, rfl, h1, h2⟩ := compC_seq hc
  obtain ⟨e1, a1, W1, l1, H1, K1, D1, A1⟩ := h h1 hfn hrd H hd
  exact ⟨e1, a1, W1, l1, H1, K1, D1, A1.seq2 hn⟩
theorem CodeTo.block {i : Nat} {a : XCode} {ex1 : Ex} (h : CodeTo P asm a fn t g ex1 t' g') (he : (ex1 = .exit i ∧ ex = .normal) ∨ (ex1 = ex ∧ ex1 ≠ .exit i)) : CodeTo P asm (.block i a) fn t g ex t' g' := by
  intro R e W c nt code ac hc hfn hrd H hd
  obtain ⟨x, rfl, h1⟩ := compC_block hc
  obtain ⟨e1, a1, W1, l1, H1, K1, D1, A1⟩ := h h1 hfn hrd H hd
  exact ⟨e1, a1, W1, l1, H1, K1, D1, A1.block he⟩

open Classical in
/-- A call, by its body. -/
theorem CallTo.code {tab : Tr XFn} (hT : TabOK P tab) {f : FuncId} {as : List AV} {body : XCode} {res : List XRes} {l : List AV} (hf : tab.getN .none (f + 1) = .fn body res) (h : CodeTo P asm body f (initT as) g ex t' g')
    (hx : ∀ i, ex ≠ .exit i) (hr : readAll t' g' res = some l) : CallTo P asm f as g (resV l) g' := by
  let rc : Cmd → Out := fun c => if c = .code body f none (initT as) [] g then .code ex t' [] g' else if c = .defs [] g' then .val (.tup []) g' else .fail 0
  have r1 : rc (.code body f none (initT as) [] g) = .code ex t' [] g' := if_pos rfl
  have r2 : rc (.defs [] g') = .val (.tup []) g' := by
    show (if _ then _ else _) = _
    rw [if_neg (fun h => by cases h), if_pos rfl]
  have S : Snd P asm rc := by
    refine ⟨?_, ?_, ?_, ?_⟩
    · intro f as g v g' hq
      have hq' : (if Cmd.call f as g = _ then _ else if Cmd.call f as g = _ then _ else _) = _ := hq
      rw [if_neg (fun h => by cases h), if_neg (fun h => by cases h)] at hq'
      cases hq'
    · intro f as g v g' hq
      have hq' : (if Cmd.round f as g = _ then _ else if Cmd.round f as g = _ then _ else _) = _ := hq
      rw [if_neg (fun h => by cases h), if_neg (fun h => by cases h)] at hq'
      cases hq'
    · intro cd fn rd t d g2 ex2 t2 d2 g3 hq
      by_cases hc : Cmd.code cd fn rd t d g2 = .code body f none (initT as) [] g
      · cases hc
        rw [r1] at hq
        cases hq
        refine ⟨fun _ => rfl, fun {R e W c nt code a} hc hfn hrd _ H hd => ?_⟩
        obtain ⟨e', a', W', h1, h2, h3, h4, h5⟩ := h hc hfn (Option.isNone_iff_eq_none.1 hrd.symm) H hd.none_eq
        exact ⟨e', a', W', h1, h2, h3, by rw [h4]; exact All2.nil, h5⟩
      · have hq' : (if Cmd.code cd fn rd t d g2 = _ then _ else if Cmd.code cd fn rd t d g2 = _ then _ else _) = _ := hq
        rw [if_neg hc, if_neg (fun h => by cases h)] at hq'
        cases hq'
    · intro d g2 v g3 hq R e W D ha hS hd
      by_cases hc : Cmd.defs d g2 = .defs [] g'
      · cases hc
        rw [r2] at hq
        cases hq
        have hz := Snd.zero (P := P) (asm := asm)
        exact defs_sound hz (show F_defs (fun _ => .fail 0) [] g' = .val (.tup []) g' from rfl) ha hS hd
      · have hq' : (if Cmd.defs d g2 = _ then _ else if Cmd.defs d g2 = _ then _ else _) = _ := hq
        rw [if_neg (fun h => by cases h), if_neg hc] at hq'
        cases hq'
  intro R e W xs ha hS hxs
  refine call_sound S hT (f := f) (as := as) (g := g) (v := resV l) (g' := g') ?_ ha hS hxs
  unfold F_call callX
  rw [hf]
  simp only
  rw [r1]
  have fin : fnK t' res (rc (.defs [] g')) = .val (resV l) g' := by
    rw [r2]
    unfold fnK
    simp only
    rw [hr]
    rcases l with _ | ⟨x, _ | ⟨y, l⟩⟩ <;> rfl
  unfold fnB
  cases ex with
  | normal => exact fin
  | ret => exact fin
  | exit i => exact absurd rfl (hx i)

/-! ### The evaluator, with what is known -/
noncomputable def orF (fx : Cmd → Option Out) (rc : Cmd → Out) (c : Cmd) : Out := match fx c with | some o => o | none => rc c
noncomputable def evX (tab : Tr XFn) (asm : Asm) (fx : Cmd → Option Out) (n : Nat) : Cmd → Out :=
  Nat.rec (motive := fun _ => Cmd → Out) (fun _ => .fail 0) (fun _ ih => orF fx (F asm tab ih)) n
def Known (P : Program) (asm : Asm) (fx : Cmd → Option Out) : Prop := Snd P asm fun c => (fx c).getD (.fail 0)
theorem Snd.or {fx : Cmd → Option Out} (h : Known P asm fx) (S : Snd P asm rc) : Snd P asm (orF fx rc) := by
  have key : ∀ {c : Cmd} {o : Out}, orF fx rc c = o → (fx c).getD (.fail 0) = o ∨ rc c = o := by
    intro c o hq
    unfold orF at hq
    cases hf : fx c with
    | none => rw [hf] at hq; exact .inr hq
    | some o' => rw [hf] at hq; exact .inl hq
  refine ⟨fun hq => ?_, fun hq => ?_, fun hq => ?_, fun hq => ?_⟩
  · rcases key hq with hk | hk
    · exact h.call hk
    · exact S.call hk
  · rcases key hq with hk | hk
    · exact h.round hk
    · exact S.round hk
  · rcases key hq with hk | hk
    · exact h.code hk
    · exact S.code hk
  · rcases key hq with hk | hk
    · exact h.defs hk
    · exact S.defs hk
theorem evX_sound {tab : Tr XFn} (hT : TabOK P tab) (hm : P.follows .mixedOrders = true) {fx : Cmd → Option Out} (hf : Known P asm fx) : ∀ n, Snd P asm (evX tab asm fx n)
  | 0 => Snd.zero
  | n + 1 => ((evX_sound hT hm hf n).next (drawOK hm _ (evX_sound hT hm hf n)) hT).or hf
/-- Nothing is known. -/
def nix : Cmd → Option Out := fun _ => none
theorem Known.nix : Known P asm nix := ⟨fun h => (by cases h), fun h => (by cases h), fun h => (by cases h), fun h => (by cases h)⟩
def both (a b : Cmd → Option Out) (c : Cmd) : Option Out := match a c with | some o => some o | none => b c
theorem Known.both {a b : Cmd → Option Out} (h : Known P asm a) (k : Known P asm b) : Known P asm (both a b) := by
  have key : ∀ {c : Cmd} {o : Out}, (Sx.both a b c).getD (.fail 0) = o → (a c).getD (.fail 0) = o ∨ (b c).getD (.fail 0) = o := by
    intro c o hq
    unfold Sx.both at hq
    cases hf : a c with
    | none => rw [hf] at hq; exact .inr hq
    | some o' => rw [hf] at hq; exact .inl hq
  refine ⟨fun hq => ?_, fun hq => ?_, fun hq => ?_, fun hq => ?_⟩
  · rcases key hq with hk | hk
    · exact h.call hk
    · exact k.call hk
  · rcases key hq with hk | hk
    · exact h.round hk
    · exact k.round hk
  · rcases key hq with hk | hk
    · exact h.code hk
    · exact k.code hk
  · rcases key hq with hk | hk
    · exact h.defs hk
    · exact k.defs hk

/-! ### The table, node by node -/
def OKT (P : Program) : Tr XFn → (Nat → Nat) → Prop
  | .tip, _ => True
  | .nd v l r, k => (v = .none ∨ compF P (k 1 - 1) = some v) ∧ OKT P l (fun m => k (2 * m)) ∧ OKT P r (fun m => k (2 * m + 1))
theorem OKT.get : ∀ (t : Tr XFn) (k : Nat → Nat) (m : Nat), 1 ≤ m → OKT P t k → t.getN .none m = .none ∨ compF P (k m - 1) = some (t.getN .none m)
  | .tip, _, _, _, _ => .inl rfl
  | .nd v l r, k, m, hm, h => by
    have e : (Tr.nd v l r).getN .none m = Bool.rec (Bool.rec (l.getN .none (m / 2)) (r.getN .none (m / 2)) (Nat.beq (m % 2) 1)) v (Nat.ble m 1) := rfl
    rw [e]
    cases hb : Nat.ble m 1
    · have hlt := ble_lt hb
      cases h2 : Nat.beq (m % 2) 1
      · have h2 := beq_f h2
        have := OKT.get l (fun m => k (2 * m)) (m / 2) (by omega) h.2.1
        rw [show 2 * (m / 2) = m by omega] at this
        exact this
      · have h2 := beq_t h2
        have := OKT.get r (fun m => k (2 * m + 1)) (m / 2) (by omega) h.2.2
        rw [show 2 * (m / 2) + 1 = m by omega] at this
        exact this
    · have hle := ble_le hb
      have h1 : m = 1 := by omega
      subst h1
      exact h.1
theorem OKT.ok {t : Tr XFn} (h : OKT P t id) : TabOK P t := fun f => OKT.get t id (f + 1) (by omega) h

/-! ### A call that asks and leaves nothing -/
noncomputable def fxFree (f : FuncId) (b : Bool) (c : Cmd) : Option Out :=
  match c with
  | .call f' as g => cond (Nat.beq f f') (match as with | [] => some (.val (.bool (.lit b)) g) | _ => none) none
  | _ => none
theorem Known.free {f : FuncId} {b : Bool} {g' : G} (h : CallTo P [] f [] { heap := .tip, next := 0 } (.bool (.lit b)) g') : Known P asm (fxFree f b) := by
  refine ⟨fun {f' as g v g2} hq => ?_, fun hq => (by cases hq), fun hq => (by cases hq), fun hq => (by cases hq)⟩
  have hq' : (cond (Nat.beq f f') (match as with | [] => some (Out.val (.bool (.lit b)) g) | _ => none) none).getD (.fail 0) = .val v g2 := hq
  cases hb : Nat.beq f f'
  · rw [hb] at hq'; cases hq'
  · rw [hb, cond_true] at hq'
    cases beq_t hb
    cases as with
    | cons x as => cases hq'
    | nil =>
      cases hq'
      intro R e W xs _ hS hx
      have S0 : Sim P (fun c => W.heap.size ≤ c) { blk := fun _ => none, v := e.v, arr := e.arr, nx := 0 } { heap := .tip, next := 0 } W :=
        ⟨fun b hb => absurd rfl hb, fun b b' _ _ _ _ hb => absurd rfl hb, fun _ _ => rfl, fun _ hc => hc, rfl⟩
      obtain ⟨e', x, W', _, h2, _, h4, h5⟩ := h (fun p hp => by cases hp) S0 (xs := xs) (by
        cases hxs : xs.toList with
        | nil => trivial
        | cons y l => rw [hxs] at hx; exact hx.elim)
      have hsame : ∀ c, c < W.heap.size → W'.heap[c]? = W.heap[c]? := fun c hc => h4.same c hc (by omega)
      refine ⟨e, x, W', Env.Le.refl e, h2, ⟨fun b hb => ?_, hS.apart, hS.fresh, fun c hc => hS.up c (Nat.le_trans h4.size hc), hS.nxt⟩, ⟨h4.size, h4.os, h4.output, h4.tape, fun c hc _ => hsame c hc⟩, h5⟩
      obtain ⟨c, n, ob, k1, k2, k3, k4⟩ := hS.obj b hb
      exact ⟨c, n, ob, k1, k2, by rw [hsame c (Array.getElem?_eq_some_iff.1 k3).1]; exact k3, k4⟩

/-! ### A call that is known, from a heap that is written alike -/
noncomputable def sameE (l : Eqs) : Bool := List.rec (motive := fun _ => Bool) true (fun p _ ih => p.1.eq p.2 && ih) l
noncomputable def sameR (l : List RowEq) : Bool := List.rec (motive := fun _ => Bool) true (fun r _ ih => Nat.beq r.j r.j' && r.n.eq r.n' && Nat.beq (llen r.cs') 0 && ih) l
theorem sameE_ok : ∀ {l : Eqs}, sameE l = true → ∀ e : Env, EqsOK e e l
  | [], _, _, _, hp => by cases hp
  | p :: l, h, e, q, hq => by
    have h' : (p.1.eq p.2 && sameE l) = true := h
    rw [Bool.and_eq_true] at h'
    rcases List.mem_cons.1 hq with rfl | hq
    · rw [SE.eq_eq h'.1]
    · exact sameE_ok h'.2 e q hq
/-- Rows as they are. -/
theorem sameR_ok : ∀ {l : List RowEq}, sameR l = true → ∀ e : Env, (∀ r ∈ l, r.n'.ev e < 2 ^ 60) → ∀ r ∈ l, r.ok e e
  | [], _, _, _, _, hr => by cases hr
  | p :: l, h, e, hb, r, hr => by
    have h' : (Nat.beq p.j p.j' && p.n.eq p.n' && Nat.beq (llen p.cs') 0 && sameR l) = true := h
    simp only [Bool.and_eq_true] at h'
    rcases List.mem_cons.1 hr with rfl | hr
    · have h0 := beq_t h'.1.2
      rw [llen_eq] at h0
      have hn := SE.eq_eq h'.1.1.2
      have hnil := List.eq_nil_of_length_eq_zero h0
      refine ⟨by rw [hn, h0]; rfl, by rw [hn]; exact hb _ List.mem_cons_self, fun q _ c k _ => by rw [beq_t h'.1.1.1], fun d c k v _ hv => by rw [hnil] at hv; simp at hv⟩
    · exact sameR_ok h'.2 e (fun r hr => hb r (List.mem_cons_of_mem _ hr)) r hr
noncomputable def fxCall (f : FuncId) (as : List AV) (l : List (Nat × AO)) (n0 : Nat) (v : AV) (g1 : G) (c : Cmd) : Option Out :=
  match c with
  | .call f' as' g => cond (Nat.beq f f' && Nat.beq g.next n0) (match mVs .tip n0 as as' with
    | some e1 => match mG .tip n0 .tip l g with
      | some x => cond (sameE e1 && sameE x.1 && sameR x.2) (some (.val v g1)) none
      | none => none
    | none => none) none
  | _ => none
theorem rho_tip (b : Nat) : rho .tip b = b := rfl
theorem mO_rows {t : Tr Nat} {nC : Nat} {o o' : AO} {eq : Eqs} {r : List RowEq} (hm : mO t nC o o' = some (eq, r)) : ∀ x ∈ r, (∃ ks cs', o' = .rows x.j' ks x.n' cs') ∨ x.n' = .lit 0 := by
  intro x hx
  unfold mO at hm
  split at hm
  · rename_i own tl
    cases hq : (own || tl)
    · rw [hq] at hm; cases hm
    · rw [hq, cond_true] at hm
      split at hm
      · cases hm; cases hx
      · cases hm
  · rename_i j k ks n j' ks' n' cs'
    cases hq : sameK (k :: ks) ks'
    · rw [hq] at hm; cases hm
    · rw [hq] at hm
      cases hm
      rcases List.mem_cons.1 hx with rfl | hx
      · exact .inl ⟨_, _, rfl⟩
      · cases hx
  · rename_i own tl
    cases hq : (own || tl)
    · rw [hq] at hm; cases hm
    · rw [hq] at hm
      cases hm
      rcases List.mem_cons.1 hx with rfl | hx
      · exact .inr rfl
      · cases hx
  · split at hm
    · cases hm; cases hx
    · cases hm
  · rename_i c buf c' buf'
    cases hq : Nat.beq c c'
    · rw [hq] at hm; cases hm
    · rw [hq, cond_true] at hm
      split at hm
      · cases hm; cases hx
      · cases hm
  · cases hm
theorem mG_rows {R : Nat → Prop} {t ti : Tr Nat} {nC : Nat} {g' : G} {e : Env} {W : World} (hS : Sim P R e g' W) : ∀ {l : List (Nat × AO)} {eq : Eqs} {r : List RowEq}, mG t nC ti l g' = some (eq, r) → ∀ x ∈ r, x.n'.ev e < 2 ^ 60
  | [], _, _, h, x, hx => by cases h; cases hx
  | q :: l, eq, r, h, x, hx => by
    have h' : cond (Nat.blt q.1 nC && Nat.beq (rho ti (rho t q.1)) q.1) (match mO t nC q.2 (hget g' (rho t q.1)) with
      | some (e, r) => match mG t nC ti l g' with
        | some (e', r') => some (lapp e e', lapp r r')
        | none => none
      | none => none) none = some (eq, r) := h
    cases hc : (Nat.blt q.1 nC && Nat.beq (rho ti (rho t q.1)) q.1)
    · rw [hc] at h'; cases h'
    · rw [hc, cond_true] at h'
      cases hm : mO t nC q.2 (hget g' (rho t q.1)) with
      | none => rw [hm] at h'; cases h'
      | some er =>
        obtain ⟨e1, r1⟩ := er
        rw [hm] at h'
        simp only at h'
        cases hi : mG t nC ti l g' with
        | none => rw [hi] at h'; cases h'
        | some er =>
          obtain ⟨e2, r2⟩ := er
          rw [hi] at h'
          cases h'
          rw [lapp_eq] at hx
          rcases List.mem_append.1 hx with hx | hx
          · rcases mO_rows hm x hx with ⟨ks, cs', hg⟩ | h0
            · obtain ⟨_, _, _, _, _, _, _, h5, _⟩ := hS.rows hg
              omega
            · rw [h0]
              show (0 : Nat) < 2 ^ 60
              decide
          · exact mG_rows hS hi x hx
theorem Known.call {f : FuncId} {as : List AV} {l : List (Nat × AO)} {n0 : Nat} {v : AV} (h : CallTo P asm f as (mkG l n0) v g1) : Known P asm (fxCall f as l n0 v g1) := by
  refine ⟨fun {f' as' g v' g2} hq => ?_, fun hq => (by cases hq), fun hq => (by cases hq), fun hq => (by cases hq)⟩
  have hq' : (cond (Nat.beq f f' && Nat.beq g.next n0) (match mVs .tip n0 as as' with
    | some e1 => match mG .tip n0 .tip l g with
      | some x => cond (sameE e1 && sameE x.1 && sameR x.2) (some (Out.val v g1)) none
      | none => none
    | none => none) none).getD (.fail 0) = .val v' g2 := hq
  cases hc : (Nat.beq f f' && Nat.beq g.next n0)
  · rw [hc] at hq'; cases hq'
  · rw [hc, cond_true] at hq'
    rw [Bool.and_eq_true] at hc
    cases beq_t hc.1
    have hnx := beq_t hc.2
    cases hm : mVs .tip n0 as as' with
    | none => rw [hm] at hq'; cases hq'
    | some e1 =>
      rw [hm] at hq'
      simp only at hq'
      cases hg : mG .tip n0 .tip l g with
      | none => rw [hg] at hq'; cases hq'
      | some x =>
        obtain ⟨e2, r2⟩ := x
        rw [hg] at hq'
        simp only at hq'
        cases hs : (sameE e1 && sameE e2 && sameR r2)
        · rw [hs] at hq'; cases hq'
        · rw [hs] at hq'
          cases hq'
          simp only [Bool.and_eq_true] at hs
          intro R e W xs ha hS hx
          have he : e.re .tip n0 e.v e.arr = e := by
            have hb : ∀ b, cond (Nat.blt b n0) (e.blk (rho .tip b)) none = e.blk b := fun b => by
              rw [rho_tip]
              cases hbl : Nat.blt b n0
              · have : ¬ b < n0 := fun h => by rw [show Nat.blt b n0 = true by simpa [Nat.blt_eq] using h] at hbl; cases hbl
                rw [cond_false, hS.fresh b (by omega)]
              · rfl
            unfold Env.re
            obtain ⟨blk, v, arr, nx⟩ := e
            simp only [Env.mk.injEq, true_and]
            exact ⟨funext hb, by rw [← hnx]; exact hS.nxt.symm⟩
          have hS2 := hS.recast (v := e.v) (arr := e.arr) hg (by rw [he]; exact sameE_ok hs.1.2 e) (by rw [he]; exact sameR_ok hs.2 e (mG_rows hS hg))
          rw [he] at hS2
          have hx2 := mVs_sound (e2 := e.re .tip n0 e.v e.arr) (fun hb => re_blk hb) as as' e1 xs.toList hm (by rw [he]; exact sameE_ok hs.1.1 e) hx
          rw [he] at hx2
          exact h ha hS2 hx2

/-! ### Loops -/
/-- A state at a loop's head. -/
structure LSt where
  t : Tr AV
  l : List (Nat × AO)
  nC : Nat
  asm : Asm
  v : Nat → Nat
  arr : Nat → Nat → Nat → Nat
/-- The frame is in that state; blocks below N are where they were. -/
def Sat (P : Program) (R : Nat → Prop) (N : Nat) (e0 : Env) (nt : Nat) (s : LSt) (a : Act) (W : World) : Prop :=
  a.defers = [] ∧ ∃ e : Env, (∀ b, b < N → e.blk b = e0.blk b) ∧ N ≤ e.nx ∧ e.v = s.v ∧ e.arr = s.arr ∧ Here P R e (mkG s.l s.nC) W s.asm s.t a nt
/-- What a run of code comes to, seen as a state. -/
noncomputable def seen (pairs : List (Nat × Nat)) (N : Nat) (tC : Tr AV) (l : List (Nat × AO)) (nC : Nat) (t' : Tr AV) (g' : G) : Option (Eqs × List RowEq) :=
  cond (pairs.all (fun p => Nat.ble N p.1 || Nat.beq p.1 p.2) && Nat.ble N nC) (match mG (mkTr pairs) nC (mkTr (pairs.map fun p => (p.2, p.1))) l g', mT (mkTr pairs) nC tC t' with
    | some x, some e2 => some (lapp x.1 e2, x.2)
    | _, _ => none) none
noncomputable def stepChk (rc : Cmd → Out) (cd : XCode) (fn : FuncId) (ex : Ex) (t : Tr AV) (l : List (Nat × AO)) (nC : Nat) (pairs : List (Nat × Nat)) (N : Nat) (tC : Tr AV) (l' : List (Nat × AO)) (nC' : Nat) : Option (Eqs × List RowEq) :=
  match rc (.code cd fn none t [] (mkG l nC)) with
  | .code e t' d g' => match d with
    | [] => match e, ex with
      | .normal, .normal => seen pairs N tC l' nC' t' g'
      | .ret, .ret => seen pairs N tC l' nC' t' g'
      | .exit i, .exit j => cond (Nat.beq i j) (seen pairs N tC l' nC' t' g') none
      | _, _ => none
    | _ => none
  | _ => none
variable {R : Nat → Prop} {N nt : Nat} {e0 : Env}
theorem seen_sat {pairs : List (Nat × Nat)} {s : LSt} {t' : Tr AV} {g' : G} {eqs : Eqs} {rows : List RowEq} (h : seen pairs N s.t s.l s.nC t' g' = some (eqs, rows)) {e : Env} {asm' : Asm} {a : Act} {W : World}
    (H : Here P R e g' W asm' t' a nt) (hd : a.defers = []) (hold : ∀ b, b < N → e.blk b = e0.blk b) (he : EqsV eqs s.v s.arr e.v e.arr) (hr : RowsV rows s.v s.arr e.v e.arr) (ha : AsmV s.asm s.v s.arr) : Sat P R N e0 nt s a W := by
  unfold seen at h
  cases hc : (pairs.all (fun p => Nat.ble N p.1 || Nat.beq p.1 p.2) && Nat.ble N s.nC)
  · rw [hc] at h; cases h
  · rw [hc, cond_true] at h
    rw [Bool.and_eq_true] at hc
    split at h
    · rename_i x e2 hg ht
      obtain ⟨e1, r1⟩ := x
      cases h
      rw [lapp_eq] at he
      have he1 : EqsV e1 s.v s.arr e.v e.arr := fun p hp => he p (List.mem_append_left _ hp)
      have he2 : EqsV e2 s.v s.arr e.v e.arr := fun p hp => he p (List.mem_append_right _ hp)
      refine ⟨hd, e.re (mkTr pairs) s.nC s.v s.arr, fun b hb => ?_, ble_le hc.2, rfl, rfl, H.recast hg ht (EqsV.ok he1) (EqsV.ok he2) (fun r hr' => RowEq.okV.ok (hr r hr')) (AsmV.ok ha)⟩
      rw [← hold b hb]
      have hlt : b < s.nC := Nat.lt_of_lt_of_le hb (ble_le hc.2)
      show cond (Nat.blt b s.nC) (e.blk (rho (mkTr pairs) b)) none = _
      rw [show Nat.blt b s.nC = true by simpa [Nat.blt_eq] using hlt, cond_true, rho_old hc.1 hb]
    · cases h
/-- A run of code from one state to another. -/
def Leads (P : Program) (cd : XCode) (fn : FuncId) (ex : Ex) (N : Nat) (s s' : LSt) : Prop :=
  ∀ ⦃R : Nat → Prop⦄ ⦃e0 : Env⦄ ⦃W : World⦄ ⦃c : Ctx⦄ ⦃nt : Nat⦄ ⦃code : Code⦄ ⦃a : Act⦄, compC P nt code = some cd → c.fn = fn → c.rd = none → Sat P R N e0 nt s a W →
    ∃ a' W', Sat P R N e0 nt s' a' W' ∧ Keep R W W' ∧ ArrC P c code a W ex a' W'
/-- Temporaries, told by their numbers. -/
noncomputable def mkT (l : List (Nat × AV)) : Tr AV := List.rec (motive := fun _ => Tr AV) .tip (fun p _ ih => ih.setN .any p.2 (p.1 + 1)) l
def p (b : Nat) : AV := .ptr b 0
def i6 (n : Nat) : AV := .int .i64 (.lit n)
def u6 (n : Nat) : AV := .int .u64 (.lit n)
def c (l : List AV) : AO := .cells l true true
def y (i : Nat) : SE := .var .i64 i
theorem Leads.of {s s' : LSt} {cd : XCode} {rc : Cmd → Out} (S : Snd P s.asm rc) {pairs : List (Nat × Nat)} {eqs : Eqs} {rows : List RowEq} (h : stepChk rc cd fn ex s.t s.l s.nC pairs N s'.t s'.l s'.nC = some (eqs, rows))
    (he : EqsV eqs s'.v s'.arr s.v s.arr) (hr : RowsV rows s'.v s'.arr s.v s.arr) (ha : AsmV s'.asm s'.v s'.arr) : Leads P cd fn ex N s s' := by
  intro R e0 W c nt code a hc hfn hrd hs
  obtain ⟨hd, e, h1, h2, h3, h4, H⟩ := hs
  have key : ∃ t' g', rc (.code cd fn none s.t [] (mkG s.l s.nC)) = .code ex t' [] g' ∧ seen pairs N s'.t s'.l s'.nC t' g' = some (eqs, rows) := by
    unfold stepChk at h
    split at h
    · rename_i ex2 t' d g' hq
      split at h
      · split at h
        · exact ⟨t', g', hq, h⟩
        · exact ⟨t', g', hq, h⟩
        · rename_i i j
          cases hij : Nat.beq i j
          · rw [hij] at h; cases h
          · rw [hij] at h
            cases beq_t hij
            exact ⟨t', g', hq, h⟩
        · cases h
      · cases h
    · cases h
  obtain ⟨t', g', hq, hseen⟩ := key
  obtain ⟨e', a', W', k1, k2, k3, k4, k5⟩ := CodeTo.of S hq hc hfn hrd H hd
  refine ⟨a', W', seen_sat hseen k2 k4 (fun b hb => ?_) (by rw [k1.v, k1.arr, h3, h4]; exact he) (by rw [k1.v, k1.arr, h3, h4]; exact hr) ha, k3, k5⟩
  rw [k1.old b (Nat.lt_of_lt_of_le hb h2)]
  exact h1 b hb
theorem Leads.mk {cd : XCode} {rc : Cmd → Out} {t t' : Tr AV} {l l' : List (Nat × AO)} {nC nC' : Nat} {asm asm' : Asm} {v v' : Nat → Nat} {arr arr' : Nat → Nat → Nat → Nat} {pairs : List (Nat × Nat)} {eqs : Eqs} {rows : List RowEq}
    (S : Snd P asm rc) (h : stepChk rc cd fn ex t l nC pairs N t' l' nC' = some (eqs, rows)) (he : EqsV eqs v' arr' v arr) (hr : RowsV rows v' arr' v arr) (ha : AsmV asm' v' arr') :
    Leads P cd fn ex N ⟨t, l, nC, asm, v, arr⟩ ⟨t', l', nC', asm', v', arr'⟩ := Leads.of (s := ⟨t, l, nC, asm, v, arr⟩) (s' := ⟨t', l', nC', asm', v', arr'⟩) S h he hr ha
theorem Leads.mk0 {cd : XCode} {rc : Cmd → Out} {t t' : Tr AV} {l l' : List (Nat × AO)} {nC nC' : Nat} {pairs : List (Nat × Nat)}
    (S : Snd P [] rc) (h : stepChk rc cd fn ex t l nC pairs N t' l' nC' = some ([], [])) (v : Nat → Nat) (arr : Nat → Nat → Nat → Nat) : Leads P cd fn ex N ⟨t, l, nC, [], v, arr⟩ ⟨t', l', nC', [], v, arr⟩ :=
  Leads.mk S h (fun _ h => by cases h) (fun _ h => by cases h) (fun _ h => by cases h)
/-! ### Rounds in which no variable turns -/
def BndA (arr : Nat → Nat → Nat → Nat) : Prop := ∀ j c q, arr j c q < 2 ^ 64
def is64 : IntKind → Bool | .i64 => true | .u64 => true | _ => false
def toldP (k : IntKind) (x s : SE) (p : SB × Bool) : Bool :=
  match p with
  | (.cmp .eql l a r, true) => kindEq l k && a.eq x && r.eq s
  | _ => false
/-- Is it taken for sure that the array tells that cell so? -/
noncomputable def toldA (asm : Asm) (k : IntKind) (x s : SE) : Bool :=
  List.rec (motive := fun _ => Bool) false (fun p _ ih => toldP k x s p || ih) asm
noncomputable def toldC (asm : Asm) (j : Nat) (n : SE) (k : IntKind) (ih : Nat → List AV → Bool) (c : Nat) (cs : List AV) : Bool :=
  match cs with
  | .int l s :: cs => kindEq k l && is64 k && toldA asm k (.sel k j c n) s && ih (c + 1) cs
  | _ => false
noncomputable def toldRow (asm : Asm) (j : Nat) (n : SE) : List IntKind → Nat → List AV → Bool :=
  fun ks => List.rec (motive := fun _ => Nat → List AV → Bool) (fun _ _ => true) (fun k _ ih c cs => toldC asm j n k ih c cs) ks
noncomputable def toldRows (asm : Asm) (j : Nat) (ks : List IntKind) (n : SE) : Nat → Nat → List AV → Bool :=
  fun m => Nat.rec (motive := fun _ => Nat → List AV → Bool) (fun _ cs => Nat.beq (llen cs) 0) (fun _ ih d cs => toldRow asm j (cond (Nat.beq d 0) n (mkBin .add .i64 n (.lit d))) ks 0 (ltake cs (llen ks)) && Nat.beq (llen (ltake cs (llen ks))) (llen ks) && ih (d + 1) (ldrop cs (llen ks))) m
noncomputable def rowIn (asm : Asm) (r : RowEq) : Bool :=
  cond (Nat.beq (llen r.cs') 0) (Nat.beq r.j r.j' && r.n.eq r.n') (
    Nat.beq r.j r.j' && r.n.eq (mkBin .add .i64 r.n' (.lit (llen r.cs' / llen r.ks))) && Nat.ble 1 (llen r.ks) && Nat.beq (llen r.cs' / llen r.ks * llen r.ks) (llen r.cs') &&
    (match boundE asm r.n' with | some b => Nat.ble (b + llen r.cs') 4294967296 | none => false) && toldRows asm r.j r.ks r.n' (llen r.cs' / llen r.ks) 0 r.cs')
noncomputable def rowsIn (asm : Asm) (l : List RowEq) : Bool := List.rec (motive := fun _ => Bool) true (fun r _ ih => rowIn asm r && ih) l
noncomputable def stepOK (asm : Asm) (r : Option (Eqs × List RowEq)) : Bool :=
  match r with
  | some x => sameE x.1 && rowsIn asm x.2
  | none => false

theorem toldA_ok {asm : Asm} {v : Nat → Nat} {arr : Nat → Nat → Nat → Nat} (ha : AsmV asm v arr) {k : IntKind} {x s : SE} (h : toldA asm k x s = true) : x.evv v arr = s.evv v arr := by
  have key : ∀ l : Asm, (∀ p ∈ l, p ∈ asm) → toldA l k x s = true → x.evv v arr = s.evv v arr := by
    intro l
    induction l with
    | nil => intro _ h; cases h
    | cons p l ih =>
      intro hm h
      have h' : (toldP k x s p || toldA l k x s) = true := h
      rw [Bool.or_eq_true] at h'
      rcases h' with h' | h'
      · unfold toldP at h'
        split at h'
        · rename_i l' a r
          simp only [Bool.and_eq_true] at h'
          have := ha _ (hm _ List.mem_cons_self)
          simp only [SB.evv, cmpN] at this
          rw [SE.eq_eq h'.1.2, SE.eq_eq h'.2] at this
          exact beq_t this
        · cases h'
      · exact ih (fun q hq => hm q (List.mem_cons_of_mem _ hq)) h'
  exact key asm (fun _ h => h) h
theorem toldRow_ok {asm : Asm} {v : Nat → Nat} {arr : Nat → Nat → Nat → Nat} (ha : AsmV asm v arr) (hb : BndA arr) {j : Nat} {n : SE} : ∀ (ks : List IntKind) (c : Nat) (cs : List AV), toldRow asm j n ks c cs = true →
    ∀ (d : Nat) k w, ks[d]? = some k → cs[d]? = some w → ∃ s, w = .int k s ∧ arr j (c + d) (n.evv v arr) = s.evv v arr
  | [], _, _, _, _, _, _, hk, _ => by simp at hk
  | k :: ks, c, cs, h, d, k', w, hk, hw => by
    have h' : toldC asm j n k (toldRow asm j n ks) c cs = true := h
    unfold toldC at h'
    split at h'
    · rename_i l s cs
      simp only [Bool.and_eq_true] at h'
      obtain ⟨⟨⟨h1, h2⟩, h3⟩, h4⟩ := h'
      cases d with
      | zero =>
        simp at hk hw
        subst hk; subst hw
        cases kindEq_eq h1
        refine ⟨s, rfl, ?_⟩
        have := toldA_ok ha h3
        have hm : md k = 2 ^ 64 := by cases k <;> first | rfl | cases h2
        simp only [SE.evv] at this
        rw [← this, hm, Nat.mod_eq_of_lt (hb _ _ _)]; rfl
      | succ d =>
        have := toldRow_ok ha hb ks (c + 1) cs h4 d k' w (by simpa using hk) (by simpa using hw)
        rwa [show c + 1 + d = c + (d + 1) by omega] at this
    · cases h'
theorem toldRows_ok {asm : Asm} {v : Nat → Nat} {arr : Nat → Nat → Nat → Nat} (ha : AsmV asm v arr) (hb : BndA arr) {j : Nat} {ks : List IntKind} {n : SE} {b : Nat} (hn : n.evv v arr + b < 2 ^ 63) (hks : 1 ≤ ks.length) : ∀ (m d : Nat) (cs : List AV), d + m ≤ b → toldRows asm j ks n m d cs = true →
    ∀ (i c : Nat) k w, ks[c]? = some k → cs[i * ks.length + c]? = some w → ∃ s, w = .int k s ∧ arr j c (n.evv v arr + (d + i)) = s.evv v arr
  | 0, d, cs, _, h, i, c, k, w, _, hw => by
    have h0 : Nat.beq (llen cs) 0 = true := h
    have h0 := beq_t h0
    rw [llen_eq] at h0
    rw [List.eq_nil_of_length_eq_zero h0] at hw
    simp at hw
  | m + 1, d, cs, hd, h, i, c, k, w, hk, hw => by
    have h' : (toldRow asm j (cond (Nat.beq d 0) n (mkBin .add .i64 n (.lit d))) ks 0 (ltake cs (llen ks)) && Nat.beq (llen (ltake cs (llen ks))) (llen ks) && toldRows asm j ks n m (d + 1) (ldrop cs (llen ks))) = true := h
    simp only [Bool.and_eq_true] at h'
    obtain ⟨⟨h1, h2⟩, h3⟩ := h'
    rw [ltake_eq, llen_eq] at h1
    rw [ldrop_eq, llen_eq] at h3
    have hc : c < ks.length := (List.getElem?_eq_some_iff.1 hk).1
    cases i with
    | zero =>
      simp only [Nat.zero_mul, Nat.zero_add] at hw
      obtain ⟨s, hs1, hs2⟩ := toldRow_ok ha hb ks 0 _ h1 c k w hk (by rw [List.getElem?_take_of_lt hc]; exact hw)
      refine ⟨s, hs1, ?_⟩
      have he : (cond (Nat.beq d 0) n (mkBin .add .i64 n (.lit d))).evv v arr = n.evv v arr + d := by
        cases hd0 : Nat.beq d 0
        · have e1 := mkBin_ev { blk := fun _ => none, v := v, arr := arr, nx := 0 } .add .i64 n (.lit d)
          rw [SE.ev_eq] at e1
          rw [cond_false, e1]
          simp only [opN, SE.ev]
          rw [SE.ev_eq]
          exact Nat.mod_eq_of_lt (by simp only [md]; omega)
        · rw [cond_true, beq_t hd0]; rfl
      rw [he, Nat.zero_add] at hs2
      exact hs2
    | succ i =>
      have hw' : (cs.drop ks.length)[i * ks.length + c]? = some w := by
        rw [List.getElem?_drop, ← hw]
        congr 1
        rw [Nat.add_mul]; omega
      obtain ⟨s, hs1, hs2⟩ := toldRows_ok ha hb hn hks m (d + 1) _ (by omega) h3 i c k w hk hw'
      exact ⟨s, hs1, by rw [← hs2]; congr 2; omega⟩
theorem rowIn_ok {asm : Asm} {v : Nat → Nat} {arr : Nat → Nat → Nat → Nat} (ha : AsmV asm v arr) (hb : BndA arr) {r : RowEq} (h : rowIn asm r = true) (hl : r.n'.evv v arr < 2 ^ 60) : r.okV v arr v arr := by
  unfold rowIn at h
  cases hc : Nat.beq (llen r.cs') 0
  · rw [hc, cond_false] at h
    simp only [Bool.and_eq_true, llen_eq] at h
    obtain ⟨⟨⟨⟨⟨h1, h2⟩, h3⟩, h4⟩, h5⟩, h6⟩ := h
    have h3 := ble_le h3
    have h4 := beq_t h4
    have hn := SE.eq_eq h2
    split at h5
    · rename_i b hbd
      have h5 := ble_le h5
      have hlt : r.n'.evv v arr < b := by
        have := boundE_sound (P := { (default : Program) with }) (R := fun _ => True) (e := { blk := fun _ => none, v := v, arr := arr, nx := 0 }) (g := { heap := .tip, next := 0 }) (W := default) (t := .tip) (a := ⟨#[], []⟩) (nt := 0)
          ⟨⟨fun b hb => absurd rfl hb, fun b b' _ _ _ _ hb => absurd rfl hb, fun _ _ => rfl, fun _ _ => trivial, rfl⟩, fun i hi => by simp at hi, Nat.le_refl _, fun p hp => by rw [SB.ev_eq]; exact ha p hp⟩ hbd
        rwa [SE.ev_eq] at this
      have hm : r.cs'.length / r.ks.length ≤ r.cs'.length := Nat.div_le_self _ _
      have hne : r.n.evv v arr = r.n'.evv v arr + r.cs'.length / r.ks.length := by
        have e1 := mkBin_ev { blk := fun _ => none, v := v, arr := arr, nx := 0 } .add .i64 r.n' (.lit (r.cs'.length / r.ks.length))
        rw [SE.ev_eq] at e1
        rw [hn, e1]
        simp only [opN, SE.ev]
        rw [SE.ev_eq]
        exact Nat.mod_eq_of_lt (by simp only [md]; omega)
      refine ⟨by rw [hne, Nat.add_mul, h4], by rw [hne]; omega, fun q _ c k _ => by rw [beq_t h1], fun d c k w hk hw => ?_⟩
      have := toldRows_ok ha hb (b := r.cs'.length) (by omega) h3 _ 0 r.cs' (by omega) h6 d c k w hk hw
      rwa [Nat.zero_add] at this
    · cases h5
  · rw [hc, cond_true] at h
    have h0 := beq_t hc
    rw [llen_eq] at h0
    rw [Bool.and_eq_true] at h
    have hn := SE.eq_eq h.2
    have hnil := List.eq_nil_of_length_eq_zero h0
    exact ⟨by rw [hn, h0]; rfl, by rw [hn]; exact hl, fun q _ c k _ => by rw [beq_t h.1], fun d c k w _ hw => by rw [hnil] at hw; simp at hw⟩
theorem seen_rows {pairs : List (Nat × Nat)} {tC t' : Tr AV} {l : List (Nat × AO)} {nC : Nat} {g' : G} {eqs : Eqs} {rows : List RowEq} (h : seen pairs N tC l nC t' g' = some (eqs, rows)) {R : Nat → Prop} {e : Env} {W : World} (hS : Sim P R e g' W) :
    ∀ r ∈ rows, r.n'.evv e.v e.arr < 2 ^ 60 := by
  unfold seen at h
  cases hc : (pairs.all (fun p => Nat.ble N p.1 || Nat.beq p.1 p.2) && Nat.ble N nC)
  · rw [hc] at h; cases h
  · rw [hc, cond_true] at h
    split at h
    · rename_i x e2 hg ht
      obtain ⟨e1, r1⟩ := x
      cases h
      intro r hr
      rw [← SE.ev_eq]
      exact mG_rows hS hg r hr
    · cases h
/-- A step in which no variable turns. -/
theorem Leads.same {cd : XCode} {rc : Cmd → Out} {t t' : Tr AV} {l l' : List (Nat × AO)} {nC nC' : Nat} {asm : Asm} {v : Nat → Nat} {arr : Nat → Nat → Nat → Nat} {pairs : List (Nat × Nat)}
    (S : Snd P asm rc) (h : stepOK asm (stepChk rc cd fn ex t l nC pairs N t' l' nC') = true) (ha : AsmV asm v arr) (hb : BndA arr) : Leads P cd fn ex N ⟨t, l, nC, asm, v, arr⟩ ⟨t', l', nC', asm, v, arr⟩ := by
  unfold stepOK at h
  split at h
  · rename_i x hx
    obtain ⟨eqs, rows⟩ := x
    rw [Bool.and_eq_true] at h
    intro R e0 W c nt code a hc hfn hrd hs
    obtain ⟨hd, e, h1, h2, h3, h4, H⟩ := hs
    have key : ∃ t1 g1, rc (.code cd fn none t [] (mkG l nC)) = .code ex t1 [] g1 ∧ seen pairs N t' l' nC' t1 g1 = some (eqs, rows) := by
      unfold stepChk at hx
      split at hx
      · rename_i ex2 t' d g' hq
        split at hx
        · split at hx
          · exact ⟨t', g', hq, hx⟩
          · exact ⟨t', g', hq, hx⟩
          · rename_i i j
            cases hij : Nat.beq i j
            · rw [hij] at hx; cases hx
            · rw [hij] at hx
              cases beq_t hij
              exact ⟨t', g', hq, hx⟩
          · cases hx
        · cases hx
      · cases hx
    obtain ⟨t1, g1, hq, hseen⟩ := key
    obtain ⟨e', a', W', k1, k2, k3, k4, k5⟩ := CodeTo.of S hq hc hfn hrd H hd
    have hv : e'.v = v := by rw [k1.v]; exact h3
    have harr : e'.arr = arr := by rw [k1.arr]; exact h4
    refine ⟨a', W', seen_sat (s := ⟨t', l', nC', asm, v, arr⟩) hseen k2 k4 (fun b hb => ?_) (fun p hp => ?_) (fun r hr => ?_) ha, k3, k5⟩
    · rw [k1.old b (Nat.lt_of_lt_of_le hb h2)]
      exact h1 b hb
    · have := sameE_ok h.1 e' p hp
      rw [SE.ev_eq, SE.ev_eq, hv, harr] at this
      rw [hv, harr]; exact this
    · have hl := seen_rows hseen k2.sim r hr
      rw [hv, harr] at hl ⊢
      refine rowIn_ok ha hb ?_ hl
      have : ∀ l : List RowEq, rowsIn asm l = true → ∀ r ∈ l, rowIn asm r = true := by
        intro l
        induction l with
        | nil => intro _ r hr; cases hr
        | cons x l ih =>
          intro h r hr
          have h' : (rowIn asm x && rowsIn asm l) = true := h
          rw [Bool.and_eq_true] at h'
          rcases List.mem_cons.1 hr with rfl | hr
          · exact h'.1
          · exact ih h'.2 r hr
      exact this rows h.2 r hr
  · cases h
/-- The same state, told by other variables. -/
theorem Sat.ren {s s' : LSt} {eqs : Eqs} {rows : List RowEq} (h : seen [] N s'.t s'.l s'.nC s.t (mkG s.l s.nC) = some (eqs, rows)) (he : EqsV eqs s'.v s'.arr s.v s.arr) (hr : RowsV rows s'.v s'.arr s.v s.arr) (ha : AsmV s'.asm s'.v s'.arr)
    {a : Act} {W : World} (hs : Sat P R N e0 nt s a W) : Sat P R N e0 nt s' a W := by
  obtain ⟨hd, e, h1, h2, h3, h4, H⟩ := hs
  exact seen_sat h H hd h1 (by rw [h3, h4]; exact he) (by rw [h3, h4]; exact hr) ha
theorem Leads.ren {cd : XCode} {s s1 s2 : LSt} (k : Leads P cd fn ex N s s1) {eqs : Eqs} {rows : List RowEq} (h : seen [] N s2.t s2.l s2.nC s1.t (mkG s1.l s1.nC) = some (eqs, rows)) (he : EqsV eqs s2.v s2.arr s1.v s1.arr) (hr : RowsV rows s2.v s2.arr s1.v s1.arr)
    (ha : AsmV s2.asm s2.v s2.arr) : Leads P cd fn ex N s s2 := by
  intro R e0 W c nt code a hc hfn hrd hs
  obtain ⟨a', W', k1, k2, k3⟩ := k hc hfn hrd hs
  exact ⟨a', W', k1.ren h he hr ha, k2, k3⟩
/-- What is so of the one state is so of the other. -/
def Imp (P : Program) (N : Nat) (s s' : LSt) : Prop := ∀ ⦃R : Nat → Prop⦄ ⦃e0 : Env⦄ ⦃nt : Nat⦄ ⦃a : Act⦄ ⦃W : World⦄, Sat P R N e0 nt s a W → Sat P R N e0 nt s' a W
theorem Imp.trans {a b c : LSt} (h : Imp P N a b) (k : Imp P N b c) : Imp P N a c := fun _ _ _ _ _ hs => k (h hs)
theorem Imp.facts {t : Tr AV} {l : List (Nat × AO)} {nC : Nat} {asm asm' : Asm} {v : Nat → Nat} {arr : Nat → Nat → Nat → Nat} (h : AsmV asm' v arr) : Imp P N ⟨t, l, nC, asm, v, arr⟩ ⟨t, l, nC, asm', v, arr⟩ :=
  fun _ _ _ _ _ ⟨hd, e, h1, h2, h3, h4, H⟩ => ⟨hd, e, h1, h2, h3, h4, H.sim, H.tr, H.nt, AsmV.ok (by rw [h3, h4]; exact h)⟩
theorem Imp.ren {t t' : Tr AV} {l l' : List (Nat × AO)} {nC nC' : Nat} {asm asm' : Asm} {v v' : Nat → Nat} {arr arr' : Nat → Nat → Nat → Nat} {eqs : Eqs} {rows : List RowEq}
    (h : seen [] N t' l' nC' t (mkG l nC) = some (eqs, rows)) (he : EqsV eqs v' arr' v arr) (hr : RowsV rows v' arr' v arr) (ha : AsmV asm' v' arr') : Imp P N ⟨t, l, nC, asm, v, arr⟩ ⟨t', l', nC', asm', v', arr'⟩ :=
  fun _ _ _ _ _ hs => Sat.ren (s := ⟨t, l, nC, asm, v, arr⟩) (s' := ⟨t', l', nC', asm', v', arr'⟩) h he hr ha hs
theorem Leads.pre {cd : XCode} {s s1 s2 : LSt} (h : Imp P N s s1) (k : Leads P cd fn ex N s1 s2) : Leads P cd fn ex N s s2 := fun _ _ _ _ _ _ _ hc hf hr hs => k hc hf hr (h hs)
theorem Leads.post {cd : XCode} {s s1 s2 : LSt} (k : Leads P cd fn ex N s s1) (h : Imp P N s1 s2) : Leads P cd fn ex N s s2 := fun _ _ _ _ _ _ _ hc hf hr hs =>
  let ⟨a', W', h1, h2, h3⟩ := k hc hf hr hs; ⟨a', W', h h1, h2, h3⟩
/-- So many rounds. -/
inductive Rounds (P : Program) (cd : XCode) (fn : FuncId) (N : Nat) : LSt → LSt → Prop
  | refl (s : LSt) : Rounds P cd fn N s s
  | step {s s1 s2 : LSt} : Leads P cd fn .normal N s s1 → Rounds P cd fn N s1 s2 → Rounds P cd fn N s s2
  | imp {s s1 s2 : LSt} : Imp P N s s1 → Rounds P cd fn N s1 s2 → Rounds P cd fn N s s2
theorem Rounds.trans {cd : XCode} {a b c : LSt} (h : Rounds P cd fn N a b) (k : Rounds P cd fn N b c) : Rounds P cd fn N a c := by
  induction h with
  | refl => exact k
  | step h _ ih => exact .step h (ih k)
  | imp h _ ih => exact .imp h (ih k)
theorem Rounds.one {cd : XCode} {a b : LSt} (h : Leads P cd fn .normal N a b) : Rounds P cd fn N a b := .step h (.refl b)
theorem Rounds.is {cd : XCode} {a b : LSt} (h : Imp P N a b) : Rounds P cd fn N a b := .imp h (.refl b)
/-- A loop: rounds, and the way out. -/
theorem Rounds.out {cd : XCode} {s s1 s2 : LSt} (h : Rounds P cd fn N s s1) (k : Leads P cd fn ex N s1 s2) (hn : ex ≠ .normal) : Leads P (.loop cd) fn ex N s s2 := by
  induction h with
  | refl s =>
    intro R e0 W c nt code a hc hfn hrd hs
    obtain ⟨x, rfl, h1⟩ := compC_loop hc
    obtain ⟨a', W', k1, k2, k3⟩ := k h1 hfn hrd hs
    exact ⟨a', W', k1, k2, k3.loop2 hn⟩
  | step h _ ih =>
    intro R e0 W c nt code a hc hfn hrd hs
    obtain ⟨x, hx, h1⟩ := compC_loop hc
    subst hx
    obtain ⟨a1, W1, j1, j2, j3⟩ := h h1 hfn hrd hs
    obtain ⟨a2, W2, k1, k2, k3⟩ := ih k hc hfn hrd j1
    exact ⟨a2, W2, k1, j2.trans k2, j3.loop1 k3⟩
  | imp h _ ih =>
    intro R e0 W c nt code a hc hfn hrd hs
    exact ih k hc hfn hrd (h hs)
/-! ### Facts, one by one -/
theorem asmV_cons {p : SB × Bool} {l : Asm} {v : Nat → Nat} {arr : Nat → Nat → Nat → Nat} : AsmV (p :: l) v arr ↔ p.1.evv v arr = p.2 ∧ AsmV l v arr :=
  ⟨fun h => ⟨h p List.mem_cons_self, fun q hq => h q (List.mem_cons_of_mem _ hq)⟩, fun h q hq => by rcases List.mem_cons.1 hq with rfl | hq; exact h.1; exact h.2 q hq⟩
theorem asmV_nil {v : Nat → Nat} {arr : Nat → Nat → Nat → Nat} : AsmV [] v arr ↔ True := ⟨fun _ => trivial, fun _ p hp => by cases hp⟩
theorem eqsV_cons {p : SE × SE} {l : Eqs} {v v' : Nat → Nat} {arr arr' : Nat → Nat → Nat → Nat} : EqsV (p :: l) v arr v' arr' ↔ p.1.evv v arr = p.2.evv v' arr' ∧ EqsV l v arr v' arr' :=
  ⟨fun h => ⟨h p List.mem_cons_self, fun q hq => h q (List.mem_cons_of_mem _ hq)⟩, fun h q hq => by rcases List.mem_cons.1 hq with rfl | hq; exact h.1; exact h.2 q hq⟩
theorem eqsV_nil {v v' : Nat → Nat} {arr arr' : Nat → Nat → Nat → Nat} : EqsV [] v arr v' arr' ↔ True := ⟨fun _ => trivial, fun _ p hp => by cases hp⟩
theorem rowsV_cons {r : RowEq} {l : List RowEq} {v v' : Nat → Nat} {arr arr' : Nat → Nat → Nat → Nat} : RowsV (r :: l) v arr v' arr' ↔ r.okV v arr v' arr' ∧ RowsV l v arr v' arr' :=
  ⟨fun h => ⟨h r List.mem_cons_self, fun q hq => h q (List.mem_cons_of_mem _ hq)⟩, fun h q hq => by rcases List.mem_cons.1 hq with rfl | hq; exact h.1; exact h.2 q hq⟩
theorem rowsV_nil {v v' : Nat → Nat} {arr arr' : Nat → Nat → Nat → Nat} : RowsV [] v arr v' arr' ↔ True := ⟨fun _ => trivial, fun _ p hp => by cases hp⟩
/-- Rows as they are, of an array that has not turned. -/
theorem RowEq.keep {j : Nat} {ks : List IntKind} {n n' : SE} {v v' : Nat → Nat} {arr : Nat → Nat → Nat → Nat} (h : n.evv v arr = n'.evv v' arr) (hb : n.evv v arr < 2 ^ 60) : RowEq.okV ⟨j, ks, n, j, n', []⟩ v arr v' arr :=
  ⟨by rw [h]; rfl, hb, fun _ _ _ _ _ => rfl, fun d c k w _ hw => by simp at hw⟩
theorem AsmV.append {a b : Asm} {v : Nat → Nat} {arr : Nat → Nat → Nat → Nat} (h : AsmV a v arr) (k : AsmV b v arr) : AsmV (a ++ b) v arr := fun p hp => by
  rcases List.mem_append.1 hp with hp | hp
  · exact h p hp
  · exact k p hp
/-! ### Facts of few variables, reckoned for all that they may be -/
def SE.only (S : Nat → Bool) : SE → Bool
  | .lit _ => true
  | .var _ i => S i
  | .sel _ _ _ _ => false
  | .bin _ _ a b => a.only S && b.only S
  | .conv _ _ a => a.only S
def SB.only (S : Nat → Bool) : SB → Bool
  | .lit _ => true
  | .cmp _ _ a b => a.only S && b.only S
  | .not s => s.only S
  | .prop _ => false
theorem SE.only_ev {S : Nat → Bool} {v v' : Nat → Nat} {arr arr' : Nat → Nat → Nat → Nat} (h : ∀ i, S i = true → v i = v' i) : ∀ s : SE, s.only S = true → s.evv v arr = s.evv v' arr'
  | .lit _, _ => rfl
  | .var k i, hs => by
    have := h i hs
    simp only [SE.evv, this]
  | .sel .., hs => by cases hs
  | .bin o k a b, hs => by
    simp only [SE.only, Bool.and_eq_true] at hs
    simp only [SE.evv]
    rw [SE.only_ev (arr' := arr') h a hs.1, SE.only_ev (arr' := arr') h b hs.2]
  | .conv s d a, hs => by
    simp only [SE.only] at hs
    simp only [SE.evv]
    rw [SE.only_ev (arr' := arr') h a hs]
theorem SB.only_ev {S : Nat → Bool} {v v' : Nat → Nat} {arr arr' : Nat → Nat → Nat → Nat} (h : ∀ i, S i = true → v i = v' i) : ∀ s : SB, s.only S = true → s.evv v arr = s.evv v' arr'
  | .lit _, _ => rfl
  | .cmp o k a b, hs => by
    simp only [SB.only, Bool.and_eq_true] at hs
    simp only [SB.evv]
    rw [SE.only_ev (arr' := arr') h a hs.1, SE.only_ev (arr' := arr') h b hs.2]
  | .not s, hs => by
    simp only [SB.only] at hs
    simp only [SB.evv]
    rw [SB.only_ev (arr' := arr') h s hs]
  | .prop _, hs => by cases hs
/-- The facts hold, with these variables; none else occurs. -/
noncomputable def bitsAt (S : Nat → Bool) (v : Nat → Nat) (l : Asm) : Bool := List.rec (motive := fun _ => Bool) true (fun p _ ih => p.1.only S && (p.1.evv v (fun _ _ _ => 0) == p.2) && ih) l
noncomputable def allBelow (n : Nat) (f : Nat → Bool) : Bool := Nat.rec (motive := fun _ => Bool) true (fun k ih => f k && ih) n
theorem allBelow_get {n : Nat} {f : Nat → Bool} (h : allBelow n f = true) : ∀ k, k < n → f k = true := by
  induction n with
  | zero => intro k hk; omega
  | succ n ih =>
    have h' : (f n && allBelow n f) = true := h
    rw [Bool.and_eq_true] at h'
    intro k hk
    by_cases hkn : k = n
    · subst hkn; exact h'.1
    · exact ih h'.2 k (by omega)
theorem bitsAt_ok {S : Nat → Bool} {v v' : Nat → Nat} {arr : Nat → Nat → Nat → Nat} (hv : ∀ i, S i = true → v i = v' i) : ∀ {l : Asm}, bitsAt S v' l = true → AsmV l v arr
  | [], _, _, hp => by cases hp
  | q :: l, h, p, hp => by
    have h' : (q.1.only S && (q.1.evv v' (fun _ _ _ => 0) == q.2) && bitsAt S v' l) = true := h
    simp only [Bool.and_eq_true] at h'
    rcases List.mem_cons.1 hp with rfl | hp
    · rw [SB.only_ev (arr' := fun _ _ _ => 0) hv p.1 h'.1.1]
      exact beq_iff_eq.1 h'.1.2
    · exact bitsAt_ok hv h'.2 p hp
theorem ble_false {a b : Nat} : (Nat.ble a b = false) = (b < a) := by
  apply propext
  exact ⟨ble_lt, ble_f⟩
theorem ble_true {a b : Nat} : (Nat.ble a b = true) = (a ≤ b) := by
  apply propext
  exact ⟨ble_le, ble_t⟩
theorem beq_true {a b : Nat} : (Nat.beq a b = true) = (a = b) := by
  apply propext
  exact ⟨beq_t, fun h => by subst h; simp⟩
theorem beq_false {a b : Nat} : (Nat.beq a b = false) = (a ≠ b) := by
  apply propext
  refine ⟨beq_f, fun h => ?_⟩
  cases hb : Nat.beq a b
  · rfl
  · exact absurd (beq_t hb) h
theorem bias_small {k : IntKind} {a : Nat} (ha : a < half k) : bias k a = cond (sgn k) (a + half k) a := by
  unfold bias
  rw [Nat.mod_eq_of_lt (by rw [md_half]; omega)]
theorem half63 : half .i64 = 2 ^ 63 := rfl
theorem leq_t {a b : Nat} (ha : a < 2 ^ 63) (hb : b < 2 ^ 63) : (cmpN .leq .i64 a b = true) = (a ≤ b) := by
  rw [← half63] at ha hb
  simp only [cmpN, bias_small ha, bias_small hb, sgn, cond_true, ble_true]
  generalize half .i64 = H
  apply propext; omega
theorem leq_f {a b : Nat} (ha : a < 2 ^ 63) (hb : b < 2 ^ 63) : (cmpN .leq .i64 a b = false) = (b < a) := by
  rw [← half63] at ha hb
  simp only [cmpN, bias_small ha, bias_small hb, sgn, cond_true, ble_false]
  generalize half .i64 = H
  apply propext; omega
theorem geq_t {a b : Nat} (ha : a < 2 ^ 63) (hb : b < 2 ^ 63) : (cmpN .geq .i64 a b = true) = (b ≤ a) := by
  rw [← half63] at ha hb
  simp only [cmpN, bias_small ha, bias_small hb, sgn, cond_true, ble_true]
  generalize half .i64 = H
  apply propext; omega
theorem geq_f {a b : Nat} (ha : a < 2 ^ 63) (hb : b < 2 ^ 63) : (cmpN .geq .i64 a b = false) = (a < b) := by
  rw [← half63] at ha hb
  simp only [cmpN, bias_small ha, bias_small hb, sgn, cond_true, ble_false]
  generalize half .i64 = H
  apply propext; omega
theorem gtr_t {a b : Nat} (ha : a < 2 ^ 63) (hb : b < 2 ^ 63) : (cmpN .gtr .i64 a b = true) = (b < a) := by
  rw [← half63] at ha hb
  simp only [cmpN, bias_small ha, bias_small hb, sgn, cond_true, Bool.not_eq_true', ble_false]
  generalize half .i64 = H
  apply propext; omega
theorem gtr_f {a b : Nat} (ha : a < 2 ^ 63) (hb : b < 2 ^ 63) : (cmpN .gtr .i64 a b = false) = (a ≤ b) := by
  rw [← half63] at ha hb
  simp only [cmpN, bias_small ha, bias_small hb, sgn, cond_true, Bool.not_eq_false', ble_true]
  generalize half .i64 = H
  apply propext; omega
theorem ult_t {a b : Nat} : (cmpN .lss .u64 a b = true) = (a < b) := by
  simp only [cmpN, bias, sgn, cond_false, Bool.not_eq_true', ble_false]
theorem eql_t {k : IntKind} {a b : Nat} : (cmpN .eql k a b = true) = (a = b) := by simp only [cmpN, beq_true]
theorem eql_f {k : IntKind} {a b : Nat} : (cmpN .eql k a b = false) = (a ≠ b) := by simp only [cmpN, beq_false]
theorem neq_f {k : IntKind} {a b : Nat} : (cmpN .neq k a b = false) = (a = b) := by simp only [cmpN, Bool.not_eq_false', beq_true]
theorem neq_t {k : IntKind} {a b : Nat} : (cmpN .neq k a b = true) = (a ≠ b) := by simp only [cmpN, Bool.not_eq_true', beq_false]
theorem rem_one {a : Nat} (ha : a < 2 ^ 63) : opN .rem .i64 a 1 = 0 := by
  have h1 : negN .i64 a = false := by unfold negN; simp only [sgn, Bool.true_and]; exact ble_f ha
  have h2 : negN .i64 1 = false := rfl
  simp only [opN, h1, h2, Bool.or_false, cond_false, Nat.mod_one]
theorem lss_t {a b : Nat} (ha : a < 2 ^ 63) (hb : b < 2 ^ 63) : (cmpN .lss .i64 a b = true) = (a < b) := by
  rw [← half63] at ha hb
  simp only [cmpN, bias_small ha, bias_small hb, sgn, cond_true, Bool.not_eq_true', ble_false]
  generalize half .i64 = H
  apply propext; omega
theorem lss_f {a b : Nat} (ha : a < 2 ^ 63) (hb : b < 2 ^ 63) : (cmpN .lss .i64 a b = false) = (b ≤ a) := by
  rw [← half63] at ha hb
  simp only [cmpN, bias_small ha, bias_small hb, sgn, cond_true, Bool.not_eq_false', ble_true]
  generalize half .i64 = H
  apply propext; omega
theorem Leads.block {i : Nat} {cd : XCode} {s s' : LSt} (h : Leads P cd fn (.exit i) N s s') : Leads P (.block i cd) fn .normal N s s' := by
  intro R e0 W c nt code a hc hfn hrd hs
  obtain ⟨x, rfl, h1⟩ := compC_block hc
  obtain ⟨a', W', k1, k2, k3⟩ := h h1 hfn hrd hs
  exact ⟨a', W', k1, k2, k3.block (.inl ⟨rfl, rfl⟩)⟩
theorem Leads.seqOut {a b : XCode} {s s' : LSt} (h : Leads P a fn ex N s s') (hn : ex ≠ .normal) : Leads P (.seq a b) fn ex N s s' := by
  intro R e0 W c nt code ac hc hfn hrd hs
  obtain ⟨x, y, rfl, h1, h2⟩ := compC_seq hc
  obtain ⟨a1, W1, j1, j2, j3⟩ := h h1 hfn hrd hs
  exact ⟨a1, W1, j1, j2, j3.seq2 hn⟩
theorem Leads.seq {a b : XCode} {s s1 s2 : LSt} (h : Leads P a fn .normal N s s1) (k : Leads P b fn ex N s1 s2) : Leads P (.seq a b) fn ex N s s2 := by
  intro R e0 W c nt code ac hc hfn hrd hs
  obtain ⟨x, y, rfl, h1, h2⟩ := compC_seq hc
  obtain ⟨a1, W1, j1, j2, j3⟩ := h h1 hfn hrd hs
  obtain ⟨a2, W2, k1, k2, k3⟩ := k h2 hfn hrd j1
  exact ⟨a2, W2, k1, j2.trans k2, j3.seq1 k3⟩
/-- Seen from where it began: the variables at the end are those that were foretold. -/
theorem Leads.to {cd : XCode} (h : ∀ (v : Nat → Nat) (arr : Nat → Nat → Nat → Nat), AsmV asm v arr → ∃ s1 s2 : LSt, (s1.t = t ∧ mkG s1.l s1.nC = g ∧ s1.asm = asm ∧ s1.v = v ∧ s1.arr = arr) ∧
      (s2.t = t' ∧ mkG s2.l s2.nC = g' ∧ s2.asm = asm ∧ s2.v = v ∧ s2.arr = arr) ∧ Leads P cd fn ex g.next s1 s2) : CodeTo P asm cd fn t g ex t' g' := by
  intro R e W c nt code a hc hfn hrd H hd
  obtain ⟨s, s', ⟨rfl, rfl, rfl, h1, h2⟩, ⟨rfl, rfl, h3, h4, h5⟩, hl⟩ := h e.v e.arr (AsmOK.v H.asm)
  obtain ⟨a', W', k1, k2, k3⟩ := hl (e0 := e) hc hfn hrd ⟨hd, e, fun _ _ => rfl, by rw [← H.sim.nxt]; exact Nat.le_refl _, h1.symm, h2.symm, H⟩
  obtain ⟨hd', e', j1, j2, j3, j4, j5⟩ := k1
  refine ⟨e', a', W', ⟨⟨fun b p hb => ?_, by rw [j3, h4], by rw [j4, h5]⟩, by rw [H.sim.nxt]; exact j2, fun b hb => j1 b (by rw [← H.sim.nxt]; exact hb)⟩, by rw [h3] at j5; exact j5, k2, hd', k3⟩
  have hlt : b < (mkG s.l s.nC).next := by
    rcases Nat.lt_or_ge b (mkG s.l s.nC).next with h | h
    · exact h
    · rw [H.sim.fresh b h] at hb; cases hb
  rw [j1 b hlt]; exact hb
end Go.Sx
