/-
  The evaluator is sound (but for regions that leave an order open: a hypothesis here).
-/
import Derived.Test.YtjbigdomdhgdgaaGreatA3
import Derived.Orders
set_option linter.unusedSimpArgs false
set_option linter.unusedVariables false
set_option linter.unusedSectionVars false
namespace Go.Sx
open Go

variable {P : Program} {R : Nat → Prop} {e : Env} {g : G} {W : World} {asm : Asm} {t : Tr AV} {a : Act} {nt : Nat} {rc : Cmd → Out} {c : Ctx}

/-- A region that leaves its order open comes to what the evaluator reckons. -/
def DrawOK (P : Program) (asm : Asm) (rc : Cmd → Out) : Prop :=
  ∀ {nt : Nat} {ops : Array Oper} {xs : List (XOper × List XOper)} {t : Tr AV} {d : List ADef} {g : G} {ex t' d' g'}, compD P nt ops.toList = some xs → foldOpsD asm rc xs t d g = .code ex t' d' g' → ex = .normal ∧
    ∀ {R e W a}, Here P R e g W asm t a nt → DRs e d a.defers → ∀ (fn id : Nat), ∃ e' a' W', e.Le e' ∧ Here P R e' g' W' asm t' a' nt ∧ Keep R W W' ∧ DRs e' d' a'.defers ∧
      ∀ (c : Ctx) k cs, c.fn = fn → (c.rd = none ∨ d' = []) → Steps P (lone (c.fr a (.code (.region id ops true) :: k)) cs W) (lone (c.fr a' k) cs W')

theorem optMap_all2 {α β : Type} {f : α → Option β} : ∀ {l : List α} {r : List β}, optMap f l = some r → All2 (fun x y => f x = some y) l r
  | [], r, h => by rw [optMap_nil h]; exact .nil
  | x :: l, r, h => by
    obtain ⟨b, s, h1, h2, rfl⟩ := optMap_cons h
    exact .cons h1 (optMap_all2 h2)
theorem range_ops {ops : Array Oper} {xs : List XOper} (h : optMap (compOper P nt ops.toList) ops.toList = some xs) : All2 (fun i x => OpAt P nt ops i x) (List.range ops.size) xs := by
  have key : ∀ (l : List Oper) (r : List XOper) (n : Nat), (∀ i, i < l.length → ops[n + i]? = l[i]?) → All2 (fun x y => compOper P nt ops.toList x = some y) l r → All2 (fun i x => OpAt P nt ops i x) (List.range' n l.length) r := by
    intro l
    induction l with
    | nil => intro r n _ h; cases h; exact .nil
    | cons o l ih =>
      intro r n hi h
      cases h with
      | cons h1 h2 =>
        rw [List.length_cons, List.range'_succ]
        refine .cons ⟨o, by have := hi 0 (by simp); simpa using this, h1⟩ (ih _ (n + 1) (fun i hl => ?_) h2)
        have := hi (i + 1) (by simpa using hl)
        rw [show n + 1 + i = n + (i + 1) by omega, this]; rfl
  have := key ops.toList xs 0 (fun i hi => by simp) (optMap_all2 h)
  rwa [Array.length_toList, ← List.range_eq_range'] at this

theorem code_mono (S : Snd P asm rc) : ∀ {cd : XCode} {fn rd t d g ex t' d' g'}, F_code asm rc cd fn rd t d g = .code ex t' d' g' → (d' = [] → d = [])
  | .skip, _, _, _, _, _, _, _, _, _, h => by cases h; exact id
  | .region ops, _, _, _, _, _, _, _, _, _, h => foldOps_mono h
  | .regionD ops, _, _, _, _, _, _, _, _, _, h => foldOpsD_mono h
  | .seq x y, fn, rd, t, d, g, _, _, _, _, h => by
    rcases seqK_inv (show seqK rc y fn rd (rc (.code x fn rd t d g)) = _ from h) with ⟨t1, d1, g1, h1, h2⟩ | ⟨h1, _⟩
    · exact fun hd => (S.code h1).1 ((S.code h2).1 hd)
    · exact (S.code h1).1
  | .cond x y z, fn, rd, t, d, g, _, _, _, _, h => by
    have h' := h
    unfold F_code at h'
    change c_cond asm x y z rc fn rd t d g = _ at h'
    unfold c_cond at h'
    split at h'
    · split at h'
      · exact (S.code h').1
      · cases h'
    · cases h'
  | .block i b, fn, rd, t, d, g, _, _, _, _, h => by
    obtain ⟨ex1, h1, _⟩ := blockK_inv (show blockK i (rc (.code b fn rd t d g)) = _ from h)
    exact (S.code h1).1
  | .loop b, fn, rd, t, d, g, _, _, _, _, h => by
    rcases seqK_inv (show seqK rc (.loop b) fn rd (rc (.code b fn rd t d g)) = _ from h) with ⟨t1, d1, g1, h1, h2⟩ | ⟨h1, _⟩
    · exact fun hd => (S.code h1).1 ((S.code h2).1 hd)
    · exact (S.code h1).1
  | .rangeFunc f ps x y, fn, rd, t, d, g, _, _, _, _, h => by
    have h' := h
    unfold F_code at h'
    change c_rangeFunc f ps x y rc fn rd t d g = _ at h'
    unfold c_rangeFunc at h'
    split at h'
    · cases h'
    · simp only at h'
      split at h'
      · obtain ⟨v, g1, st, pend, fn, tt, ps, asg, body, _, _, _, _, _, rfl, _⟩ := rfK_inv h'
        exact fun h => by cases h
      · cases h'
  | .exit i, _, _, _, _, _, _, _, _, _, h => by cases h; exact id
  | .ret, _, _, _, _, _, _, _, _, _, h => by cases h; exact id

theorem code_sound (S : Snd P asm rc) (hD : DrawOK P asm rc) {cd : XCode} {fn : FuncId} {rd : Option Nat} {t : Tr AV} {d : List ADef} {g : G} {ex t' d' g'} (h : F_code asm rc cd fn rd t d g = .code ex t' d' g')
    {R : Nat → Prop} {e : Env} {W : World} {c : Ctx} {nt : Nat} {code : Code} {a : Act} (hc : compC P nt code = some cd) (hfn : c.fn = fn) (hrd : rd.isNone = c.rd.isNone) (hdd : rd = none ∨ d' = []) (H : Here P R e g W asm t a nt) (hd : DRs e d a.defers) :
    ∃ e' a' W', e.Le e' ∧ Here P R e' g' W' asm t' a' nt ∧ Keep R W W' ∧ DRs e' d' a'.defers ∧ ArrC P c code a W ex a' W' := by
  have hcr : c.rd = none ∨ d' = [] := by
    rcases hdd with h | h
    · left; rw [h] at hrd; exact Option.isNone_iff_eq_none.1 hrd.symm
    · exact .inr h
  cases code with
  | skip =>
    cases hc; cases h
    exact ⟨e, a, W, Env.Le.refl e, H, Keep.refl R W, hd, fun κ k cs => .one t_skip⟩
  | region id ops draw =>
    simp only [compC] at hc
    cases draw with
    | false =>
      obtain ⟨xs, h1, rfl⟩ := map_some hc
      obtain ⟨rfl, h2⟩ := foldOps_sound S (range_ops h1) (show foldOps asm rc xs t d g = _ from h)
      obtain ⟨_, e', a', W', q1, q2, q3, q4, q5⟩ := h2 H hd
      exact ⟨e', a', W', q1, q2, q3, q4, fun κ k cs => .head t_region (q5 (c.as κ) k cs hcr)⟩
    | true =>
      obtain ⟨xs, h1, rfl⟩ := map_some hc
      obtain ⟨rfl, h2⟩ := hD h1 (show foldOpsD asm rc xs t d g = _ from h)
      obtain ⟨e', a', W', q1, q2, q3, q4, q5⟩ := h2 H hd c.fn id
      exact ⟨e', a', W', q1, q2, q3, q4, fun κ k cs => q5 (c.as κ) k cs rfl hcr⟩
  | seq x y =>
    simp only [compC] at hc
    split at hc
    · rename_i xx xy h1 h2
      cases hc
      rcases seqK_inv (show seqK rc xy fn rd (rc (.code xx fn rd t d g)) = _ from h) with ⟨t1, d1, g1, h3, h4⟩ | ⟨h3, hn⟩
      · obtain ⟨m1, k1⟩ := S.code h3
        obtain ⟨m2, k2⟩ := S.code h4
        obtain ⟨e1, a1, W1, l1, H1, K1, D1, A1⟩ := k1 h1 hfn hrd (hdd.imp id m2) H hd
        obtain ⟨e2, a2, W2, l2, H2, K2, D2, A2⟩ := k2 h2 hfn hrd hdd H1 D1
        exact ⟨e2, a2, W2, l1.trans l2, H2, K1.trans K2, D2, A1.seq1 A2⟩
      · obtain ⟨m1, k1⟩ := S.code h3
        obtain ⟨e1, a1, W1, l1, H1, K1, D1, A1⟩ := k1 h1 hfn hrd hdd H hd
        exact ⟨e1, a1, W1, l1, H1, K1, D1, A1.seq2 hn⟩
    · cases hc
  | cond p x y =>
    simp only [compC] at hc
    split at hc
    · rename_i xp xx xy h0 h1 h2
      cases hc
      have h' : c_cond asm xp xx xy rc fn rd t d g = _ := h
      unfold c_cond at h'
      split at h'
      · rename_i s hs
        split at h'
        · rename_i r hr
          have hv := H.opd h0
          rw [hs] at hv
          have hp : a.eval p = .bool r := by rw [hv.boolv, decB_sound H hr]
          obtain ⟨m1, k1⟩ := S.code h'
          obtain ⟨e1, a1, W1, l1, H1, K1, D1, A1⟩ := k1 (code := cond r x y) (by cases r <;> assumption) hfn hrd hdd H hd
          exact ⟨e1, a1, W1, l1, H1, K1, D1, A1.cond hp⟩
        · cases h'
      · cases h'
    · cases hc
  | block i x =>
    simp only [compC] at hc
    obtain ⟨xx, h1, rfl⟩ := map_some hc
    obtain ⟨ex1, h2, h3⟩ := blockK_inv (show blockK i (rc (.code xx fn rd t d g)) = _ from h)
    obtain ⟨m1, k1⟩ := S.code h2
    obtain ⟨e1, a1, W1, l1, H1, K1, D1, A1⟩ := k1 h1 hfn hrd hdd H hd
    exact ⟨e1, a1, W1, l1, H1, K1, D1, A1.block h3⟩
  | loop x =>
    have hc0 := hc
    simp only [compC] at hc
    obtain ⟨xx, h1, rfl⟩ := map_some hc
    rcases seqK_inv (show seqK rc (.loop xx) fn rd (rc (.code xx fn rd t d g)) = _ from h) with ⟨t1, d1, g1, h3, h4⟩ | ⟨h3, hn⟩
    · obtain ⟨m1, k1⟩ := S.code h3
      obtain ⟨m2, k2⟩ := S.code h4
      obtain ⟨e1, a1, W1, l1, H1, K1, D1, A1⟩ := k1 h1 hfn hrd (hdd.imp id m2) H hd
      obtain ⟨e2, a2, W2, l2, H2, K2, D2, A2⟩ := k2 hc0 hfn hrd hdd H1 D1
      exact ⟨e2, a2, W2, l1.trans l2, H2, K1.trans K2, D2, A1.loop1 A2⟩
    · obtain ⟨m1, k1⟩ := S.code h3
      obtain ⟨e1, a1, W1, l1, H1, K1, D1, A1⟩ := k1 h1 hfn hrd hdd H hd
      exact ⟨e1, a1, W1, l1, H1, K1, D1, A1.loop2 hn⟩
  | rangeFunc f ps x y =>
    simp only [compC] at hc
    split at hc
    · rename_i xf xx xy h0 h1 h2
      obtain ⟨hps, hc⟩ := cond_some_none hc
      cases hc
      have h' : c_rangeFunc xf (ps.toList.map pathOf) xx xy rc fn rd t d g = _ := h
      unfold c_rangeFunc at h'
      split at h'
      · cases h'
      · rename_i hrd0
        have hcn : c.rd = none := Option.isNone_iff_eq_none.1 hrd.symm
        simp only at h'
        split at h'
        · rename_i f' fs cs' hxf
          obtain ⟨v, g1, st, pend, fn', tt, ps', asg', body', h3, h4, h5, h6, rfl, rfl, rfl⟩ := rfK_inv h'
          have hvf := H.opd h0
          rw [hxf] at hvf
          obtain ⟨first, cap, hvf, hv1, hv2⟩ := hvf
          -- the two blocks
          have hle1 : e.Le (e.add g.next (W.heap.size, 0)) := Env.add_le (H.sim.fresh _ (Nat.le_refl _)) H.sim.nxt
          obtain ⟨S1, l1, K1⟩ := H.sim.alloc (o := .deferred) (n := 0) (NewAt.push W (.deferred (some []))) rfl
          have hor : ∀ e', e.Le e' → OR P e' (.loop .ready none fn t' (ps.toList.map pathOf) xx xy) 0 (.loop { state := .ready, pending := none, fn := c.fn, tmps := a.tmps, params := ps, assign := x, body := y, defers := W.heap.size }) :=
            fun e' l => ⟨hfn, trivial, trivial, H.tr.le l, rfl, nt, H.nt, h1, h2, fun p hp => blt_lt (List.all_eq_true.1 hps p hp)⟩
          obtain ⟨S2, l2, K2⟩ := S1.alloc (o := .loop .ready none fn t' (ps.toList.map pathOf) xx xy) (n := 0)
            (NewAt.push _ (.loop { state := .ready, pending := none, fn := c.fn, tmps := a.tmps, params := ps, assign := x, body := y, defers := W.heap.size })) (hor _ (l1.trans (Env.add_le (S1.fresh _ (Nat.le_refl _)) S1.nxt)))
          have l12 := l1.trans l2
          have hbl := Env.add_here (e.add g.next (W.heap.size, 0)) (hnew g .deferred).next ((({ W with heap := W.heap.push (.deferred (some [])) } : World)).heap.size, 0)
          have hbl' : ((e.add g.next (W.heap.size, 0)).add (hnew g .deferred).next ((({ W with heap := W.heap.push (.deferred (some [])) } : World)).heap.size, 0)).blk (g.next + 1) = some (W.heap.size + 1, 0) := by
            have := hbl; simpa using this
          have hbm := l2.blk _ _ (Env.add_here e g.next (W.heap.size, 0))
          have hargs : VRs ((e.add g.next (W.heap.size, 0)).add (hnew g .deferred).next ((({ W with heap := W.heap.push (.deferred (some [])) } : World)).heap.size, 0)) (lapp fs (.yield (hnew g .deferred).next :: cs')) (first ++ #[Value.func (.yield (W.heap.size + 1)) #[] #[]] ++ cap).toList := by
            rw [lapp_eq]
            simp only [Array.toList_append, List.append_assoc]
            exact (VRs.le l12 _ _ hv1).append ⟨⟨_, _, hbl', rfl⟩, VRs.le l12 _ _ hv2⟩
          obtain ⟨e3, xv, W3, l3, _, S3, K3, hdone⟩ := S.call h3 (AsmOK.le H.asm l12) S2 hargs
          have hst := fun κ k cs => t_range (P := P) (c := c.as κ) (W := W) (a := a) (ps := ps) (asg := x) (body := y) (k := k) (cs := cs) hcn hvf (W' := W3) (x := xv) hdone
          have hb3 := l3.blk _ _ hbl'
          obtain ⟨L, hL, hOR⟩ := S3.loop hb3 h4
          have hnb : L.state ≠ .busy := by
            have := hOR.2.1
            intro hq
            rw [hq] at this
            cases st <;> first | exact this.elim | exact h5 rfl
          obtain ⟨S4, K4⟩ := S3.put (o' := .loop .exhausted pend fn' tt ps' asg' body') h4 trivial hb3 (setObj_put (ob' := .loop { L with state := .exhausted }) hL) (by
            have := OR.loopSet (st' := .exhausted) (pend' := pend) (s := .exhausted) (p := L.pending) hOR trivial hOR.2.2.1
            exact this)
          have l123 := l12.trans l3
          refine ⟨e3, { a with defers := { target := .collected W.heap.size, args := #[] } :: a.defers }, _, l123, ⟨S4, H.tr.le l123, H.nt, AsmOK.le H.asm l123⟩, ((K1.trans K2).trans K3).trans K4,
            .cons ⟨_, _, l3.blk _ _ hbm, rfl⟩ (DRs.le l123 hd), ?_⟩
          have hpr := hOR.2.2.1
          subst h6
          have base : ∀ κ k cs, Steps P (lone ((c.as κ).fr a (.code (.rangeFunc f ps x y) :: k)) cs W) (lone ((c.as κ).fr { a with defers := { target := .collected W.heap.size, args := #[] } :: a.defers } ((L.pending.map Item.code).toList ++ k)) cs _) :=
            fun κ k cs => (hst κ k cs).trans (.one (t_endRange hL hnb))
          cases pend with
          | none =>
            intro κ k cs
            have hp : L.pending = none := by
              cases hq : L.pending with
              | none => rfl
              | some z => rw [hq] at hpr; exact hpr.elim
            have := base κ k cs
            rw [show (L.pending.map Item.code).toList ++ k = k by rw [hp]; rfl] at this
            exact this
          | some ex =>
            cases ex with
            | normal =>
              exfalso
              cases hq : L.pending with
              | none => rw [hq] at hpr; exact hpr
              | some z => rw [hq] at hpr; exact hpr
            | exit i =>
              intro κ k cs
              have hp : L.pending = some (.exit i) := by
                cases hq : L.pending with
                | none => rw [hq] at hpr; exact hpr.elim
                | some z =>
                  rw [hq] at hpr
                  cases z <;> first | exact hpr.elim | (rw [show i = _ from hpr])
              have := base κ k cs
              rw [show (L.pending.map Item.code).toList ++ k = .code (.exit i) :: k by rw [hp]; rfl] at this
              exact ⟨k, rfl, this⟩
            | ret =>
              intro κ k cs
              have hp : L.pending = some .ret := by
                cases hq : L.pending with
                | none => rw [hq] at hpr; exact hpr.elim
                | some z =>
                  rw [hq] at hpr
                  cases z <;> first | exact hpr.elim | rfl
              have := base κ k cs
              rw [show (L.pending.map Item.code).toList ++ k = .code .ret :: k by rw [hp]; rfl] at this
              exact ⟨k, this⟩
        · cases h'
    · cases hc
  | exit i =>
    cases hc; cases h
    exact ⟨e, a, W, Env.Le.refl e, H, Keep.refl R W, hd, fun κ k cs => ⟨k, rfl, Steps.refl P _⟩⟩
  | ret =>
    cases hc; cases h
    exact ⟨e, a, W, Env.Le.refl e, H, Keep.refl R W, hd, fun κ k cs => ⟨k, Steps.refl P _⟩⟩
  | _ => cases hc

/-! ### Calls -/
/-- The table holds nothing but the functions' own. -/
def TabOK (P : Program) (tab : Tr XFn) : Prop := ∀ f, tab.getN .none (f + 1) = .none ∨ compF P f = some (tab.getN .none (f + 1))

theorem fnK_inv {t : Tr AV} {res : List XRes} {o : Out} {v g'} (h : fnK t res o = .val v g') : ∃ w l, o = .val w g' ∧ readAll t g' res = some l ∧ v = resV l := by
  unfold fnK at h
  split at h
  · rename_i w g1
    split at h
    · rename_i l hl
      split at h
      · cases h; exact ⟨w, _, rfl, hl, rfl⟩
      · rename_i hne
        cases h
        refine ⟨w, l, rfl, hl, ?_⟩
        unfold resV
        split
        · rename_i v1; exact absurd rfl (hne v1)
        · rfl
    · cases h
  · cases h
  · cases h
theorem fnB_inv {res : List XRes} {o : Out} {v g'} (h : fnB rc res o = .val v g') :
    ∃ ex t d g1 w l, o = .code ex t d g1 ∧ (∀ i, ex ≠ .exit i) ∧ rc (.defs d g1) = .val w g' ∧ readAll t g' res = some l ∧ v = resV l := by
  unfold fnB at h
  split at h
  · rename_i ex t d g1
    split at h
    · cases h
    · rename_i hne
      obtain ⟨w, l, h1, h2, h3⟩ := fnK_inv h
      exact ⟨ex, t, d, g1, w, l, rfl, fun i he => hne i he, h1, h2, h3⟩
  · cases h
  · cases h

theorem call_sound (S : Snd P asm rc) {tab : Tr XFn} (hT : TabOK P tab) {f : FuncId} {as : List AV} {g : G} {v : AV} {g' : G} (h : F_call tab rc f as g = .val v g') {R : Nat → Prop} {e : Env} {W : World} {xs : Array Value} (ha : AsmOK e asm)
    (hS : Sim P R e g W) (hx : VRs e as xs.toList) : ∃ e' x W', e.Le e' ∧ VR e' v x ∧ Sim P R e' g' W' ∧ Keep R W W' ∧ CallDone P f xs W x W' := by
  unfold F_call callX at h
  split at h
  · cases h
  · rename_i ext hxe
    split at h
    · rename_i v1 g1 hev
      cases h
      have hcf : compF P f = some (.ext ext) := by
        rcases hT f with hq | hq
        · rw [hxe] at hq; cases hq
        · rw [hxe] at hq; exact hq
      unfold compF at hcf
      cases hfn : P.funcs[f]? with
      | none => rw [hfn] at hcf; cases hcf
      | some fn =>
        rw [hfn] at hcf
        simp only at hcf
        cases hb : fn.body with
        | some b =>
          rw [hb] at hcf
          simp only at hcf
          split at hcf
          · obtain ⟨_, h2⟩ := cond_none_some hcf; cases h2
          · cases hcf
        | none =>
          rw [hb] at hcf
          obtain ⟨ho, h2⟩ := cond_some_none hcf
          obtain ⟨ex, h3, h4⟩ := map_some h2
          cases h4
          obtain ⟨y, W', r1, r2, r3, r4⟩ := ext_sound (P := P) hS hev hx
          exact ⟨e, y, W', Env.Le.refl e, r2, r3, r4, .inl (callFunc_ext hfn hb h3 (by simpa using ho) r1)⟩
    · cases h
  · rename_i body res hxe
    have hcf : compF P f = some (.fn body res) := by
      rcases hT f with hq | hq
      · rw [hxe] at hq; cases hq
      · rw [hxe] at hq; exact hq
    unfold compF at hcf
    cases hfn : P.funcs[f]? with
    | none => rw [hfn] at hcf; cases hcf
    | some fn =>
      rw [hfn] at hcf
      simp only at hcf
      cases hb : fn.body with
      | none =>
        rw [hb] at hcf
        obtain ⟨ho, h2⟩ := cond_some_none hcf
        obtain ⟨ex, h3, h4⟩ := map_some h2
        cases h4
      | some b =>
        rw [hb] at hcf
        simp only at hcf
        split at hcf
        · rename_i xb xr hcb hcr
          obtain ⟨hng, h2⟩ := cond_none_some hcf
          cases h2
          simp only [Bool.or_eq_false_iff] at hng
          obtain ⟨ex, t1, d1, g1, w, l, h1, hex, h2, h3, rfl⟩ := fnB_inv h
          obtain ⟨m1, k1⟩ := S.code h1
          have H0 : Here P R e g W asm (initT as) ⟨xs ++ Array.replicate (fn.ntmps - xs.size) _root_.Go.undef, []⟩ fn.ntmps :=
            ⟨hS, initT_TR hx _, by show fn.ntmps ≤ Array.size _; simp; omega, ha⟩
          obtain ⟨e1, a1, W1, l1, H1, K1, D1, A1⟩ := k1 (c := ⟨f, .normal, none⟩) hcb rfl rfl (.inl rfl) H0 .nil
          obtain ⟨e2, W2, l2, S2, K2, st⟩ := S.defs h2 H1.asm H1.sim D1
          have H2 : Here P R e2 g' W2 asm t1 a1 fn.ntmps := ⟨S2, H1.tr.le l2, H1.nt, AsmOK.le H1.asm l2⟩
          obtain ⟨y, r1, r2⟩ := results_sound H2 hcr h3
          refine ⟨e2, y, W2, l1.trans l2, r2, S2, K1.trans K2, .inr ⟨?_, fun kind cs _ => ?_⟩⟩
          · have hnm : ¬ fn.name = "runtime.NumGoroutine" := by simpa using hng.1
            simp [callFunc, hfn, hnm, hb, Result.andThen]
          · have hend : ∃ fr : Frame, Steps P (lone (Frame.enter P f xs kind) cs W) (lone fr cs W1) ∧ fr.fn = f ∧ fr.kind = kind ∧ fr.mode = .returning ∧ fr.defers = a1.defers ∧ fr.tmps = a1.tmps := by
              rw [enter_frame hfn hb]
              cases ex with
              | normal => exact ⟨_, Steps.trans (A1 kind [] cs) (.one (t_end rfl)), rfl, rfl, rfl, rfl, rfl⟩
              | ret =>
                obtain ⟨k', hk⟩ := A1 kind [] cs
                exact ⟨_, Steps.trans hk (.one (t_ret rfl)), rfl, rfl, rfl, rfl, rfl⟩
              | exit i => exact absurd rfl (hex i)
            obtain ⟨fr, q1, q2, q3, q4, q5, q6⟩ := hend
            exact ⟨{ fr with defers := [] }, q1.trans (st fr cs q4 q5), q2, q3, q4, rfl, fn, hfn, by show (results fn fr.tmps).run P W2 = _; rw [q6]; exact r1⟩
        · cases hcf

/-- One level more. -/
theorem Snd.next (S : Snd P asm rc) (hD : DrawOK P asm rc) {tab : Tr XFn} (hT : TabOK P tab) : Snd P asm (F asm tab rc) where
  call := by
    intro f as g v g' h R e W xs ha hS hx
    exact call_sound S hT h ha hS hx
  round := by
    intro l as g v g' h R e W xs c n ha hS hb hx
    exact round_sound S h ha hS hb hx
  code := by
    intro cd fn rd t d g ex t' d' g' h
    exact ⟨code_mono S h, fun hc hfn hrd hdd H hd => code_sound S hD h hc hfn hrd hdd H hd⟩
  defs := by
    intro d g v g' h R e W D ha hS hd
    exact defs_sound S h ha hS hd
theorem Snd.zero : Snd P asm (fun _ => .fail 0) where
  call h := by cases h
  round h := by cases h
  code h := by cases h
  defs h := by cases h
theorem ev_sound {tab : Tr XFn} (hT : TabOK P tab) (hD : ∀ rc, Snd P asm rc → DrawOK P asm rc) : ∀ n, Snd P asm (ev tab asm n)
  | 0 => Snd.zero
  | n + 1 => (ev_sound hT hD n).next (hD _ (ev_sound hT hD n)) hT
end Go.Sx
/-
  Regions that leave an order open: what an operation's answer hangs on.
-/
namespace Go.Sx
open Go

/-! ### Trees -/
theorem mkK_comm {α : Type} (d x y : α) : ∀ (p q : List Bool), p ≠ q → Tr.setK d y (Tr.mkK d x p) q = Tr.setK d x (Tr.mkK d y q) p
  | [], [], h => absurd rfl h
  | [], true :: q, _ => rfl
  | [], false :: q, _ => rfl
  | true :: p, [], _ => rfl
  | false :: p, [], _ => rfl
  | true :: p, false :: q, _ => rfl
  | false :: p, true :: q, _ => rfl
  | true :: p, true :: q, h => by
    show Tr.nd d .tip (Tr.setK d y (Tr.mkK d x p) q) = Tr.nd d .tip (Tr.setK d x (Tr.mkK d y q) p)
    rw [mkK_comm d x y p q (fun he => h (by rw [he]))]
  | false :: p, false :: q, h => by
    show Tr.nd d (Tr.setK d y (Tr.mkK d x p) q) .tip = Tr.nd d (Tr.setK d x (Tr.mkK d y q) p) .tip
    rw [mkK_comm d x y p q (fun he => h (by rw [he]))]
theorem setK_comm {α : Type} (d x y : α) : ∀ (t : Tr α) (p q : List Bool), p ≠ q → Tr.setK d y (Tr.setK d x t p) q = Tr.setK d x (Tr.setK d y t q) p
  | .tip, p, q, h => mkK_comm d x y p q h
  | .nd v l r, [], [], h => absurd rfl h
  | .nd v l r, [], true :: q, _ => rfl
  | .nd v l r, [], false :: q, _ => rfl
  | .nd v l r, true :: p, [], _ => rfl
  | .nd v l r, false :: p, [], _ => rfl
  | .nd v l r, true :: p, false :: q, _ => rfl
  | .nd v l r, false :: p, true :: q, _ => rfl
  | .nd v l r, true :: p, true :: q, h => by
    show Tr.nd v l (Tr.setK d y (Tr.setK d x r p) q) = Tr.nd v l (Tr.setK d x (Tr.setK d y r q) p)
    rw [setK_comm d x y r p q (fun he => h (by rw [he]))]
  | .nd v l r, false :: p, false :: q, h => by
    show Tr.nd v (Tr.setK d y (Tr.setK d x l p) q) r = Tr.nd v (Tr.setK d x (Tr.setK d y l q) p) r
    rw [setK_comm d x y l p q (fun he => h (by rw [he]))]
theorem pEq_iff : ∀ {p q : List Bool}, pEq p q = true ↔ p = q
  | [], [] => by simp [pEq]
  | [], _ :: _ => by simp [pEq]
  | _ :: _, [] => by simp [pEq]
  | a :: p, b :: q => by
    have := @pEq_iff p q
    cases a <;> cases b <;> simp [pEq, this]
theorem pMem_iff {p : List Bool} {l : List (List Bool)} : pMem p l = true ↔ p ∈ l := by
  unfold pMem
  rw [List.any_eq_true]
  constructor
  · rintro ⟨q, h1, h2⟩; rw [pEq_iff.1 h2]; exact h1
  · intro h; exact ⟨p, h, pEq_iff.2 rfl⟩

/-! ### What it hangs on -/
variable {asm : Asm} {t t' : Tr AV} {g : G}
def Agree (t t' : Tr AV) (l : List (List Bool)) : Prop := ∀ p ∈ l, t.getK .any p = t'.getK .any p
theorem Agree.left {l r : List (List Bool)} (h : Agree t t' (l ++ r)) : Agree t t' l := fun p hp => h p (List.mem_append_left _ hp)
theorem Agree.right {l r : List (List Bool)} (h : Agree t t' (l ++ r)) : Agree t t' r := fun p hp => h p (List.mem_append_right _ hp)
theorem opd_agree {x : XOpd} (h : Agree t t' (rdO x)) : opd t x = opd t' x := by
  cases x with
  | tmp p => exact h p (by simp [rdO])
  | con v => rfl
theorem opds_agree : ∀ {l : List XOpd}, Agree t t' (rdL l) → lmap (opd t) l = lmap (opd t') l
  | [], _ => rfl
  | x :: l, h => by
    have h' : Agree t t' (rdO x ++ rdL l) := h
    rw [lmap_eq, lmap_eq, List.map_cons, List.map_cons, opd_agree h'.left, ← lmap_eq, ← lmap_eq, opds_agree h'.right]
theorem optN_agree {x : Option XOpd} (h : Agree t t' (rdOO x)) : optN t x = optN t' x := by
  cases x with
  | none => rfl
  | some x =>
    have h' : Agree t t' (rdO x) := h
    unfold optN; simp only; rw [opd_agree h']
theorem fillAt_agree : ∀ {ps : List (Nat × Nat × XOpd)} {cs : List AV}, Agree t t' (ps.flatMap fun p => rdO p.2.2) → fillAt t ps cs = fillAt t' ps cs
  | [], cs, _ => rfl
  | p :: ps, cs, h => by
    have h' : Agree t t' (rdO p.2.2 ++ ps.flatMap fun p => rdO p.2.2) := h
    show (match cellsOf (opd t p.2.2) with
      | some vs => cond (Nat.beq (llen vs) p.2.1 && Nat.ble (p.1 + llen vs) (llen cs)) (fillAt t ps (storeL cs vs p.1)) none
      | none => none) = (match cellsOf (opd t' p.2.2) with
      | some vs => cond (Nat.beq (llen vs) p.2.1 && Nat.ble (p.1 + llen vs) (llen cs)) (fillAt t' ps (storeL cs vs p.1)) none
      | none => none)
    rw [opd_agree h'.left]
    split
    · rw [fillAt_agree h'.right]
    · rfl

theorem evalOp_agree {x : XOp} (h : Agree t t' (xreads x)) : evalOp asm x t g = evalOp asm x t' g := by
  cases x with
  | mv x => show o_mv x t g = o_mv x t' g; unfold o_mv; rw [opd_agree h]
  | pick c a b => show o_pick asm c a b t g = o_pick asm c a b t' g; unfold o_pick; rw [opd_agree h.left, opd_agree h.right.left, opd_agree h.right.right]
  | new z => rfl
  | box x => show o_box x t g = o_box x t' g; unfold o_box; rw [opd_agree h]
  | build z ps => show o_build z ps t g = o_build z ps t' g; unfold o_build; rw [fillAt_agree h]
  | buildSlice z n ps => show o_buildSlice z n ps t g = o_buildSlice z n ps t' g; unfold o_buildSlice; rw [fillAt_agree h]
  | load n x => show o_load asm n x t g = o_load asm n x t' g; unfold o_load; rw [opd_agree h]
  | store n a v => show o_store n a v t g = o_store n a v t' g; unfold o_store; rw [opd_agree h.left, opd_agree h.right]
  | nilCheck x => show o_nilCheck x t g = o_nilCheck x t' g; unfold o_nilCheck; rw [opd_agree h]
  | bin c o x y => show o_bin asm c o x y t g = o_bin asm c o x y t' g; unfold o_bin; rw [opd_agree h.left, opd_agree h.right]
  | not x => show o_not x t g = o_not x t' g; unfold o_not; rw [opd_agree h]
  | neg x => show o_neg x t g = o_neg x t' g; unfold o_neg; rw [opd_agree h]
  | cpl x => show o_cpl x t g = o_cpl x t' g; unfold o_cpl; rw [opd_agree h]
  | conv d x => show o_conv asm d x t g = o_conv asm d x t' g; unfold o_conv; rw [opd_agree h]
  | bad => rfl
  | convP x => show o_convP x t g = o_convP x t' g; unfold o_convP; rw [opd_agree h]
  | fieldAddr o x => show o_fieldAddr o x t g = o_fieldAddr o x t' g; unfold o_fieldAddr; rw [opd_agree h]
  | field o n x => show o_field o n x t g = o_field o n x t' g; unfold o_field; rw [opd_agree h]
  | idxArr l s x i => show o_idxArr asm l s x i t g = o_idxArr asm l s x i t' g; unfold o_idxArr; rw [opd_agree h.left, opd_agree h.right]
  | idxSl s x i => show o_idxSl asm s x i t g = o_idxSl asm s x i t' g; unfold o_idxSl; rw [opd_agree h.left, opd_agree h.right]
  | index l s n x i => show o_index asm l s n x i t g = o_index asm l s n x i t' g; unfold o_index; rw [opd_agree h.left, opd_agree h.right]
  | slc s x lo hi mx => show o_slc s x lo hi mx t g = o_slc s x lo hi mx t' g; unfold o_slc; rw [opd_agree h.left, optN_agree h.right.left, optN_agree h.right.right.left, optN_agree h.right.right.right]
  | slArr l s x lo hi mx => show o_slArr l s x lo hi mx t g = o_slArr l s x lo hi mx t' g; unfold o_slArr; rw [opd_agree h.left, optN_agree h.right.left, optN_agree h.right.right.left, optN_agree h.right.right.right]
  | arrOf n x => show o_arrOf n x t g = o_arrOf n x t' g; unfold o_arrOf; rw [opd_agree h]
  | mkIface ty x => show o_mkIface ty x t g = o_mkIface ty x t' g; unfold o_mkIface; rw [opd_agree h]
  | mkFunc f a b => show o_mkFunc f a b t g = o_mkFunc f a b t' g; unfold o_mkFunc; rw [opds_agree h.left, opds_agree h.right]
  | mkMap => rfl
  | lookup z ok m k => show o_lookup asm z ok m k t g = o_lookup asm z ok m k t' g; unfold o_lookup; rw [opd_agree h.left, opd_agree h.right]
  | insert m k v => show o_insert asm m k v t g = o_insert asm m k v t' g; unfold o_insert; rw [opd_agree h.left, opd_agree h.right.left, opd_agree h.right.right]
  | mkSlice z b l c => show o_mkSlice asm z b l c t g = o_mkSlice asm z b l c t' g; unfold o_mkSlice; rw [opd_agree h.left, opd_agree h.right]
  | mkChan s => show o_mkChan s t g = o_mkChan s t' g; unfold o_mkChan; rw [opd_agree h]
  | extract x i => show o_extract x i t g = o_extract x i t' g; unfold o_extract; rw [opd_agree h]
  | call f as => show o_call f as t g = o_call f as t' g; unfold o_call; rw [opd_agree h.left, opds_agree h.right]
  | callF f as => show o_callF f as t g = o_callF f as t' g; unfold o_callF; rw [opds_agree h]
  | invoke ms x as => show o_invoke ms x as t g = o_invoke ms x as t' g; unfold o_invoke; rw [opd_agree h.left, opds_agree h.right]
  | len c x => show o_len c x t g = o_len c x t' g; unfold o_len; rw [opd_agree h]
  | lenArr n => rfl
  | append s b x y => show o_append asm s b x y t g = o_append asm s b x y t' g; unfold o_append; rw [opd_agree h.left, opd_agree h.right]
  | min2 x y => show o_min2 asm x y t g = o_min2 asm x y t' g; unfold o_min2; rw [opd_agree h.left, opd_agree h.right]
  | max2 x y => show o_max2 asm x y t g = o_max2 asm x y t' g; unfold o_max2; rw [opd_agree h.left, opd_agree h.right]
  | defer f as => show o_defer f as t g = o_defer f as t' g; unfold o_defer; rw [opds_agree h]
  | selSend c v => show o_selSend c v t g = o_selSend c v t' g; unfold o_selSend; rw [opd_agree h.left, opd_agree h.right]
  | selRecv c z => show o_selRecv c z t g = o_selRecv c z t' g; unfold o_selRecv; rw [opd_agree h]

/-- Class 0: the blocks are not asked. -/
def reG (g : G) : OpR → OpR
  | .val v _ => .val v g
  | .fail n => .fail n
  | _ => .fail 0
theorem reG_cond (g : G) (c : Bool) (a b : OpR) : reG g (cond c a b) = cond c (reG g a) (reG g b) := by cases c <;> rfl
theorem re_cond {g' : G} {c : Bool} {a b a' b' : OpR} (h1 : a' = reG g' a) (h2 : b' = reG g' b) : cond c a' b' = reG g' (cond c a b) := by rw [reG_cond, h1, h2]
theorem eqB_re (o : BinOp) (a : Bool) (s : SB) (g g' : G) : eqB o a s g' = reG g' (eqB o a s g) := by unfold eqB; split <;> rfl
theorem binV_re (c : Nat) (o : BinOp) (x y : AV) (g g' : G) : binV asm c o x y g' = reG g' (binV asm c o x y g) := by
  unfold binV
  split
  · refine re_cond (re_cond rfl rfl) (re_cond (re_cond rfl rfl) ?_)
    split
    · split <;> first | rfl | exact re_cond rfl rfl
    · split
      · split <;> first | rfl | exact re_cond rfl rfl
      · split <;> first | rfl | exact re_cond rfl rfl
      · rfl
  · exact re_cond (eqB_re ..) rfl
  · exact re_cond (eqB_re ..) rfl
  · refine re_cond ?_ rfl
    split
    · split <;> rfl
    · rfl
  · refine re_cond ?_ rfl
    split <;> rfl
theorem partOf_re (cs : List AV) (off : Nat) (n : Option Nat) (g g' : G) : partOf cs off n g' = reG g' (partOf cs off n g) := by
  unfold partOf; split
  · split <;> rfl
  · rfl
theorem class0_re {x : XOp} (hx : xclass x = 0) (t : Tr AV) (g g' : G) : evalOp asm x t g' = reG g' (evalOp asm x t g) := by
  cases x <;> simp only [xclass] at hx <;> first | (exact absurd hx (by decide)) | skip
  case mv x => rfl
  case pick c a b =>
    show o_pick asm c a b t g' = reG g' (o_pick asm c a b t g)
    unfold o_pick; split
    · split <;> rfl
    · rfl
  case build z ps => show o_build z ps t g' = reG g' (o_build z ps t g); unfold o_build; split <;> rfl
  case nilCheck x => show o_nilCheck x t g' = reG g' (o_nilCheck x t g); unfold o_nilCheck; split <;> rfl
  case bin c o x y => show o_bin asm c o x y t g' = reG g' (o_bin asm c o x y t g); unfold o_bin; exact binV_re ..
  case not x => show o_not x t g' = reG g' (o_not x t g); unfold o_not; split <;> rfl
  case neg x => show o_neg x t g' = reG g' (o_neg x t g); unfold o_neg; split <;> rfl
  case cpl x => show o_cpl x t g' = reG g' (o_cpl x t g); unfold o_cpl; split <;> rfl
  case conv d x => show o_conv asm d x t g' = reG g' (o_conv asm d x t g); unfold o_conv; split <;> rfl
  case bad => rfl
  case fieldAddr o x => show o_fieldAddr o x t g' = reG g' (o_fieldAddr o x t g); unfold o_fieldAddr; split <;> rfl
  case field o n x =>
    show o_field o n x t g' = reG g' (o_field o n x t g); unfold o_field; split
    · exact partOf_re ..
    · rfl
  case idxArr l s x i =>
    show o_idxArr asm l s x i t g' = reG g' (o_idxArr asm l s x i t g); unfold o_idxArr; split
    · split
      · split
        · exact re_cond rfl rfl
        · rfl
      · rfl
    · rfl
  case idxSl s x i =>
    show o_idxSl asm s x i t g' = reG g' (o_idxSl asm s x i t g); unfold o_idxSl; split
    · split
      · split
        · exact re_cond rfl rfl
        · exact re_cond rfl rfl
      · rfl
    · split
      · exact re_cond rfl rfl
      · rfl
    · rfl
  case index l s n x i =>
    show o_index asm l s n x i t g' = reG g' (o_index asm l s n x i t g); unfold o_index; split
    · split
      · split
        · exact re_cond rfl (partOf_re ..)
        · rfl
      · rfl
    · rfl
  case slc s x lo hi mx =>
    show o_slc s x lo hi mx t g' = reG g' (o_slc s x lo hi mx t g); unfold o_slc; split
    · split <;> rfl
    · rfl
  case slArr l s x lo hi mx =>
    show o_slArr l s x lo hi mx t g' = reG g' (o_slArr l s x lo hi mx t g); unfold o_slArr; split
    · split
      · split
        · exact re_cond rfl rfl
        · rfl
      · rfl
    · rfl
  case arrOf n x =>
    show o_arrOf n x t g' = reG g' (o_arrOf n x t g); unfold o_arrOf; split
    · exact re_cond rfl rfl
    · rfl
  case mkIface ty x => rfl
  case mkFunc f a b => rfl
  case extract x i =>
    show o_extract x i t g' = reG g' (o_extract x i t g); unfold o_extract; split
    · split <;> rfl
    · rfl
  case len c x =>
    have hc : c = 3 := by
      cases hb : Nat.beq c 3
      · rw [hb] at hx; cases hx
      · exact beq_t hb
    subst hc
    show o_len 3 x t g' = reG g' (o_len 3 x t g); unfold o_len; split <;> rfl
  case lenArr n => rfl
  case min2 x y =>
    show o_min2 asm x y t g' = reG g' (o_min2 asm x y t g); unfold o_min2; split
    · refine re_cond ?_ rfl
      split <;> rfl
    · rfl
  case max2 x y =>
    show o_max2 asm x y t g' = reG g' (o_max2 asm x y t g); unfold o_max2; split
    · refine re_cond ?_ rfl
      split <;> rfl
    · rfl
end Go.Sx
/-
  Regions that leave an order open: what may be done earlier.
-/
namespace Go.Sx
open Go

variable {asm : Asm} {rc : Cmd → Out}

/-! ### Classes -/
noncomputable def ptrOf (x : XOp) (t : Tr AV) : Option Nat :=
  match x with
  | .load _ y => match opd t y with | .ptr b _ => some b | .ptrS b _ _ _ => some b | _ => none
  | .convP y => match opd t y with | .ptr b _ => some b | _ => none
  | _ => none
theorem class0_val {x : XOp} (hx : xclass x = 0) {t : Tr AV} {d g v d1 g1} (h : OneR rc (evalOp asm x t g) d g v d1 g1) : d1 = d ∧ g1 = g ∧ ∀ d' g', OneR rc (evalOp asm x t g') d' g' v d' g' := by
  have key : ∀ g', evalOp asm x t g' = reG g' (evalOp asm x t g) := fun g' => class0_re hx t g g'
  have hself := key g
  cases hr : evalOp asm x t g with
  | val w g2 =>
    rw [hr] at h hself
    obtain ⟨rfl, rfl, rfl⟩ := h
    cases hself
    exact ⟨rfl, rfl, fun d' g' => by rw [key g', hr]; exact ⟨rfl, rfl, rfl⟩⟩
  | fail n => rw [hr] at h; exact h.elim
  | skip g2 => rw [hr] at hself; cases hself
  | enter f as g2 => rw [hr] at hself; cases hself
  | round l as g2 => rw [hr] at hself; cases hself
  | defer y => rw [hr] at hself; cases hself
theorem class1_val {x : XOp} (hx : xclass x = 1) {t : Tr AV} {d g v d1 g1} (h : OneR rc (evalOp asm x t g) d g v d1 g1) :
    d1 = d ∧ g1 = g ∧ evalOp asm x t g = .val v g ∧ ∃ b, ptrOf x t = some b ∧ hget g b ≠ .none ∧ ∀ d' g', hget g' b = hget g b → OneR rc (evalOp asm x t g') d' g' v d' g' := by
  cases x <;> simp only [xclass] at hx <;> first | (exact absurd hx (by decide)) | skip
  case load n y =>
    have h' : OneR rc (o_load asm n y t g) d g v d1 g1 := h
    unfold o_load at h'
    split at h'
    · rename_i b off hb
      split at h'
      · rename_i w hl
        obtain ⟨rfl, rfl, rfl⟩ := h'
        refine ⟨rfl, rfl, ?_, b, ?_, ?_, fun d' g' hg => ?_⟩
        · show o_load asm n y t g1 = _
          unfold o_load; rw [hb]; simp only; rw [hl]
        · unfold ptrOf; simp only; rw [hb]
        · intro hq
          unfold loadAt at hl; rw [hq] at hl; cases hl
        · show OneR rc (o_load asm n y t g') d' g' v d' g'
          unfold o_load; rw [hb]; simp only
          have : loadAt g' n b off = loadAt g1 n b off := by unfold loadAt; rw [hg]
          rw [this, hl]
          exact ⟨rfl, rfl, rfl⟩
      · exact h'.elim
    · rename_i b i sz co hb
      split at h'
      · rename_i w hl
        obtain ⟨rfl, rfl, rfl⟩ := h'
        refine ⟨rfl, rfl, ?_, b, ?_, ?_, fun d' g' hg => ?_⟩
        · show o_load asm n y t g1 = _
          unfold o_load; rw [hb]; simp only; rw [hl]
        · unfold ptrOf; simp only; rw [hb]
        · intro hq
          unfold loadRow at hl; rw [hq] at hl; cases hl
        · show OneR rc (o_load asm n y t g') d' g' v d' g'
          unfold o_load; rw [hb]; simp only
          have : loadRow asm g' n b i sz co = loadRow asm g1 n b i sz co := by unfold loadRow; rw [hg]
          rw [this, hl]
          exact ⟨rfl, rfl, rfl⟩
      · exact h'.elim
    · exact h'.elim
  case convP y =>
    have h' : OneR rc (o_convP y t g) d g v d1 g1 := h
    unfold o_convP at h'
    split at h'
    · rename_i b off hb
      split at h'
      · rename_i cs ow tl hl
        cases hc : Nat.ble (llen cs) off
        · rw [hc] at h'
          obtain ⟨rfl, rfl, rfl⟩ := h'
          refine ⟨rfl, rfl, ?_, b, ?_, ?_, fun d' g' hg => ?_⟩
          · show o_convP y t g1 = _
            unfold o_convP; rw [hb]; simp only; rw [hl]; simp only; rw [hc]; rfl
          · unfold ptrOf; simp only; rw [hb]
          · rw [hl]; exact fun h => by cases h
          · show OneR rc (o_convP y t g') d' g' _ d' g'
            unfold o_convP; rw [hb]; simp only; rw [hg, hl]; simp only; rw [hc]
            exact ⟨rfl, rfl, rfl⟩
        · rw [hc] at h'; exact h'.elim
      · exact h'.elim
    · exact h'.elim
  case len c y =>
    exfalso
    cases hb : Nat.beq c 3 <;> rw [hb] at hx <;> cases hx
theorem class2_val {x : XOp} (hx : xclass x = 2) {t : Tr AV} {d g v d1 g1} (h : OneR rc (evalOp asm x t g) d g v d1 g1) :
    d1 = d ∧ (∃ o, g1 = hnew g o) ∧ ∀ d', OneR rc (evalOp asm x t g) d' g v d' g1 := by
  have fin : ∀ {r : OpR}, evalOp asm x t g = r → (∀ w g2, r = .val w g2 → ∃ o, g2 = hnew g o) → ((∃ n, r = .fail n) ∨ ∃ w g2, r = .val w g2) → d1 = d ∧ (∃ o, g1 = hnew g o) ∧ ∀ d', OneR rc (evalOp asm x t g) d' g v d' g1 := by
    intro r hr h1 h2
    rw [hr] at h ⊢
    rcases h2 with ⟨n, rfl⟩ | ⟨w, g2, rfl⟩
    · exact h.elim
    · obtain ⟨rfl, rfl, rfl⟩ := h
      exact ⟨rfl, h1 _ _ rfl, fun d' => ⟨rfl, rfl, rfl⟩⟩
  cases x <;> simp only [xclass] at hx <;> first | (exact absurd hx (by decide)) | skip
  case new z => exact fin rfl (fun w g2 hq => by cases hq; exact ⟨_, rfl⟩) (.inr ⟨_, _, rfl⟩)
  case mkMap => exact fin rfl (fun w g2 hq => by cases hq; exact ⟨_, rfl⟩) (.inr ⟨_, _, rfl⟩)
  case box y =>
    refine fin (r := o_box y t g) rfl (fun w g2 hq => ?_) ?_
    · unfold o_box at hq; split at hq <;> cases hq; exact ⟨_, rfl⟩
    · unfold o_box; split
      · exact .inr ⟨_, _, rfl⟩
      · exact .inl ⟨_, rfl⟩
  case buildSlice z n ps =>
    refine fin (r := o_buildSlice z n ps t g) rfl (fun w g2 hq => ?_) ?_
    · unfold o_buildSlice at hq; split at hq <;> cases hq; exact ⟨_, rfl⟩
    · unfold o_buildSlice; split
      · exact .inr ⟨_, _, rfl⟩
      · exact .inl ⟨_, rfl⟩
  case mkSlice z b l c =>
    refine fin (r := o_mkSlice asm z b l c t g) rfl (fun w g2 hq => ?_) ?_
    · unfold o_mkSlice at hq
      split at hq
      · split at hq
        · rename_i ln cn _ _
          cases hb : (Nat.ble ln cn && Nat.ble cn 16777216 && Nat.ble (cn * b) 140737488355328 && !negN _ ln && !negN _ cn) <;> rw [hb] at hq <;> cases hq
          exact ⟨_, rfl⟩
        · cases hq
      · cases hq
    · unfold o_mkSlice
      split
      · split
        · rename_i ln cn _ _
          cases (Nat.ble ln cn && Nat.ble cn 16777216 && Nat.ble (cn * b) 140737488355328 && !negN _ ln && !negN _ cn)
          · exact .inl ⟨_, rfl⟩
          · exact .inr ⟨_, _, rfl⟩
        · exact .inl ⟨_, rfl⟩
      · exact .inl ⟨_, rfl⟩
  case mkChan s =>
    refine fin (r := o_mkChan s t g) rfl (fun w g2 hq => ?_) ?_
    · unfold o_mkChan at hq
      split at hq
      · rename_i k n hh
        cases hb : (negN k n || Nat.ble 65536 n) <;> rw [hb] at hq <;> cases hq
        exact ⟨_, rfl⟩
      · cases hq
    · unfold o_mkChan
      split
      · rename_i k n hh
        cases (negN k n || Nat.ble 65536 n)
        · exact .inr ⟨_, _, rfl⟩
        · exact .inl ⟨_, rfl⟩
      · exact .inl ⟨_, rfl⟩
  case len c y =>
    exfalso
    cases hb : Nat.beq c 3 <;> rw [hb] at hx <;> cases hx

theorem class2_res {x : XOp} (hx : xclass x = 2) (t : Tr AV) (g : G) : (∃ n, evalOp asm x t g = .fail n) ∨ ∃ w g2, evalOp asm x t g = .val w g2 := by
  cases x <;> simp only [xclass] at hx <;> first | (exact absurd hx (by decide)) | skip
  case new z => exact .inr ⟨_, _, rfl⟩
  case mkMap => exact .inr ⟨_, _, rfl⟩
  case box y =>
    show (∃ n, o_box y t g = .fail n) ∨ ∃ w g2, o_box y t g = .val w g2
    unfold o_box; split
    · exact .inr ⟨_, _, rfl⟩
    · exact .inl ⟨_, rfl⟩
  case buildSlice z n ps =>
    show (∃ m, o_buildSlice z n ps t g = .fail m) ∨ ∃ w g2, o_buildSlice z n ps t g = .val w g2
    unfold o_buildSlice; split
    · exact .inr ⟨_, _, rfl⟩
    · exact .inl ⟨_, rfl⟩
  case mkSlice z b l c =>
    show (∃ m, o_mkSlice asm z b l c t g = .fail m) ∨ ∃ w g2, o_mkSlice asm z b l c t g = .val w g2
    unfold o_mkSlice
    split
    · split
      · rename_i ln cn _ _
        cases (Nat.ble ln cn && Nat.ble cn 16777216 && Nat.ble (cn * b) 140737488355328 && !negN _ ln && !negN _ cn)
        · exact .inl ⟨_, rfl⟩
        · exact .inr ⟨_, _, rfl⟩
      · exact .inl ⟨_, rfl⟩
    · exact .inl ⟨_, rfl⟩
  case mkChan s =>
    show (∃ m, o_mkChan s t g = .fail m) ∨ ∃ w g2, o_mkChan s t g = .val w g2
    unfold o_mkChan
    split
    · rename_i k n hh
      cases (negN k n || Nat.ble 65536 n)
      · exact .inr ⟨_, _, rfl⟩
      · exact .inl ⟨_, rfl⟩
    · exact .inl ⟨_, rfl⟩
  case len c y =>
    exfalso
    cases hb : Nat.beq c 3 <;> rw [hb] at hx <;> cases hx
theorem class2_form {x : XOp} (hx : xclass x = 2) {t : Tr AV} {g : G} {v : AV} {g1 : G} (h : evalOp asm x t g = .val v g1) : ∃ (mk : Nat → AV) (o : AO), (∀ g', evalOp asm x t g' = .val (mk g'.next) (hnew g' o)) ∧ o ≠ .none := by
  cases x <;> simp only [xclass] at hx <;> first | (exact absurd hx (by decide)) | skip
  case new z => exact ⟨fun b => .ptr b 0, _, fun g' => rfl, fun h => by cases h⟩
  case mkMap => exact ⟨fun b => .map b, _, fun g' => rfl, fun h => by cases h⟩
  case box y =>
    have h' : o_box y t g = .val v g1 := h
    unfold o_box at h'
    split at h'
    · rename_i cs hc
      exact ⟨fun b => .ptr b 0, .cells cs true true, fun g' => by show o_box y t g' = _; unfold o_box; rw [hc], fun h => by cases h⟩
    · cases h'
  case buildSlice z n ps =>
    have h' : o_buildSlice z n ps t g = .val v g1 := h
    unfold o_buildSlice at h'
    split at h'
    · rename_i l hl
      exact ⟨fun b => .slice b 0 (.lit n) (.known n), .cells l true true, fun g' => by show o_buildSlice z n ps t g' = _; unfold o_buildSlice; rw [hl], fun h => by cases h⟩
    · cases h'
  case mkSlice z bt l c =>
    have h' : o_mkSlice asm z bt l c t g = .val v g1 := h
    unfold o_mkSlice at h'
    split at h'
    · rename_i kl el kc ec h1 h2
      split at h'
      · rename_i ln cn h3 h4
        cases hb : (Nat.ble ln cn && Nat.ble cn 16777216 && Nat.ble (cn * bt) 140737488355328 && !negN kl ln && !negN kc cn)
        · rw [hb] at h'; cases h'
        · exact ⟨fun b => .slice b 0 (.lit ln) (.known cn), .cells (lrep z cn) true true, fun g' => by show o_mkSlice asm z bt l c t g' = _; unfold o_mkSlice; rw [h1, h2]; simp only; rw [h3, h4]; simp only; rw [hb]; rfl, fun h => by cases h⟩
      · cases h'
    · cases h'
  case mkChan s =>
    have h' : o_mkChan s t g = .val v g1 := h
    unfold o_mkChan at h'
    split at h'
    · rename_i k n h1
      cases hb : (negN k n || Nat.ble 65536 n)
      · exact ⟨fun b => .chan b, .chan n [], fun g' => by show o_mkChan s t g' = _; unfold o_mkChan; rw [h1]; simp only; rw [hb]; rfl, fun h => by cases h⟩
      · rw [hb] at h'; cases h'
    · cases h'
  case len c y =>
    exfalso
    cases hb : Nat.beq c 3 <;> rw [hb] at hx <;> cases hx

/-! ### One operation, with its guard -/
def XOper.guard : XOper → Option (List Bool × Bool)
  | .op _ _ => none
  | .st _ => none
  | .gop g w _ _ => some (g, w)
  | .gst g w _ => some (g, w)
/-- Is it wanted? -/
noncomputable def wantX (x : XOper) (t : Tr AV) : Option Bool :=
  match x.guard with
  | none => some true
  | some (g, w) => wantedV (t.getK .any g) w
def EvX (asm : Asm) (rc : Cmd → Out) (x : XOper) (t : Tr AV) (d : List ADef) (g : G) (v : AV) (d1 : List ADef) (g1 : G) : Prop :=
  (wantX x t = some true ∧ OneR rc (evalOp asm x.xop t g) d g v d1 g1) ∨ (wantX x t = some false ∧ v = undef ∧ d1 = d ∧ g1 = g)
def AgainX (asm : Asm) (x : XOper) (t : Tr AV) (g : G) : Prop :=
  ∃ p, x.dst = some p ∧ ((wantX x t = some true ∧ ∃ g', evalOp asm x.xop t g = .val (t.getK .any p) g') ∨ wantX x t = some false)
theorem reads_guard {x : XOper} {g : List Bool} {w : Bool} (h : x.guard = some (g, w)) : g ∈ x.reads := by
  cases x <;> cases h <;> simp [XOper.reads]
theorem reads_op {x : XOper} {p : List Bool} (h : p ∈ xreads x.xop) : p ∈ x.reads := by
  cases x with
  | op q o => exact h
  | st o => exact h
  | gop g w q o => exact List.mem_cons_of_mem _ h
  | gst g w o => exact List.mem_cons_of_mem _ h
theorem wantX_agree {x : XOper} {t t' : Tr AV} (h : Agree t t' x.reads) : wantX x t = wantX x t' := by
  unfold wantX
  split
  · rfl
  · rename_i g w hg
    rw [h g (reads_guard hg)]
theorem eval_agree {x : XOper} {t t' : Tr AV} {g : G} (h : Agree t t' x.reads) : evalOp asm x.xop t g = evalOp asm x.xop t' g := evalOp_agree fun p hp => h p (reads_op hp)
theorem EvX.agree {x : XOper} {t t' : Tr AV} {d g v d1 g1} (h : EvX asm rc x t d g v d1 g1) (ha : Agree t t' x.reads) : EvX asm rc x t' d g v d1 g1 := by
  unfold EvX at *
  rw [← wantX_agree ha, ← eval_agree ha]
  exact h
theorem putO_get {t : Tr AV} {dst : Option (List Bool)} {v : AV} {q : List Bool} (h : dst ≠ some q) : (putO t dst v).getK .any q = t.getK .any q := by
  cases dst with
  | none => rfl
  | some p =>
    show (Tr.setK .any v t p).getK .any q = _
    rw [getK_setK, if_neg (fun he => h (by rw [he]))]
theorem putO_same {t : Tr AV} {p : List Bool} {v : AV} : (putO t (some p) v).getK .any p = v := by
  show (Tr.setK .any v t p).getK .any p = _
  rw [getK_setK, if_pos rfl]
theorem putO_comm {t : Tr AV} {x y : Option (List Bool)} {v w : AV} (h : ∀ p, x = some p → y ≠ some p) : putO (putO t x v) y w = putO (putO t y w) x v := by
  cases x with
  | none => rfl
  | some p =>
    cases y with
    | none => rfl
    | some q => exact setK_comm .any v w t p q (fun he => h p rfl (by rw [he]))
theorem agree_put {t : Tr AV} {dst : Option (List Bool)} {v : AV} {l : List (List Bool)} (h : ∀ p, dst = some p → p ∉ l) : Agree (putO t dst v) t l := fun q hq => putO_get fun he => h q he hq
theorem Agree.symm {t t' : Tr AV} {l : List (List Bool)} (h : Agree t t' l) : Agree t' t l := fun p hp => (h p hp).symm

theorem ev0 {x : XOper} (hx : xclass x.xop = 0) {t d g v d1 g1} (h : EvX asm rc x t d g v d1 g1) : d1 = d ∧ g1 = g ∧ ∀ d' g', EvX asm rc x t d' g' v d' g' := by
  rcases h with ⟨hw, h⟩ | ⟨hw, rfl, rfl, rfl⟩
  · obtain ⟨h1, h2, h3⟩ := class0_val hx h
    exact ⟨h1, h2, fun d' g' => .inl ⟨hw, h3 d' g'⟩⟩
  · exact ⟨rfl, rfl, fun d' g' => .inr ⟨hw, rfl, rfl, rfl⟩⟩
theorem ev1 {x : XOper} (hx : xclass x.xop = 1) {t d g v d1 g1} (h : EvX asm rc x t d g v d1 g1) :
    d1 = d ∧ g1 = g ∧ (∀ d' g', (∀ b, ptrOf x.xop t = some b → hget g b ≠ .none → hget g' b = hget g b) → EvX asm rc x t d' g' v d' g') := by
  rcases h with ⟨hw, h⟩ | ⟨hw, rfl, rfl, rfl⟩
  · obtain ⟨h1, h2, _, b, h3, h4, h5⟩ := class1_val hx h
    exact ⟨h1, h2, fun d' g' hg => .inl ⟨hw, h5 d' g' (hg b h3 h4)⟩⟩
  · exact ⟨rfl, rfl, fun d' g' _ => .inr ⟨hw, rfl, rfl, rfl⟩⟩
theorem ev2 {x : XOper} (hx : xclass x.xop = 2) {t d g v d1 g1} (h : EvX asm rc x t d g v d1 g1) : d1 = d ∧ (g1 = g ∨ ∃ o, g1 = hnew g o) ∧ ∀ d', EvX asm rc x t d' g v d' g1 := by
  rcases h with ⟨hw, h⟩ | ⟨hw, rfl, rfl, rfl⟩
  · obtain ⟨h1, h2, h3⟩ := class2_val hx h
    exact ⟨h1, .inr h2, fun d' => .inl ⟨hw, h3 d'⟩⟩
  · exact ⟨rfl, .inl rfl, fun d' => .inr ⟨hw, rfl, rfl, rfl⟩⟩

/-- A block laid at a number. -/
def layB (asm : Asm) (x : XOp) (t : Tr AV) (b : Nat) (v : AV) (o : AO) : Prop := ∃ mk : Nat → AV, (∀ g', evalOp asm x t g' = .val (mk g'.next) (hnew g' o)) ∧ v = mk b ∧ o ≠ .none
/-- An operation and its number: of the block that it lays. -/
abbrev DB := DOp × Nat
abbrev DB.x (p : DB) : XOper := p.1.2.2.1
abbrev DB.cls (p : DB) : Nat := xclass p.1.2.2.1.xop
noncomputable def layAt (g : G) (b : Nat) (o : AO) : G := { heap := g.heap.setN .none o (b + 1), next := max g.next (b + 1) }
theorem hget_layAt (g : G) (b b' : Nat) (o : AO) : hget (layAt g b o) b' = if b = b' then o else hget g b' := hget_hset g b b' o
/-- What the operation comes to, its number given. -/
def EvB (asm : Asm) (rc : Cmd → Out) (p : DB) (t : Tr AV) (d : List ADef) (g : G) (v : AV) (d1 : List ADef) (g1 : G) : Prop :=
  (p.cls ≠ 2 ∧ EvX asm rc p.x t d g v d1 g1) ∨
  (p.cls = 2 ∧ d1 = d ∧ ((wantX p.x t = some true ∧ ∃ o, layB asm p.x.xop t p.2 v o ∧ g1 = layAt g p.2 o) ∨ (wantX p.x t = some false ∧ v = undef ∧ g1 = g)))
theorem EvB.agree {p : DB} {t t' : Tr AV} {d g v d1 g1} (h : EvB asm rc p t d g v d1 g1) (ha : Agree t t' p.x.reads) : EvB asm rc p t' d g v d1 g1 := by
  rcases h with ⟨hc, h⟩ | ⟨hc, hd, h⟩
  · exact .inl ⟨hc, h.agree ha⟩
  · refine .inr ⟨hc, hd, ?_⟩
    rw [← wantX_agree ha]
    rcases h with ⟨hw, o, ⟨mk, hf, hv⟩, hg⟩ | h
    · exact .inl ⟨hw, o, ⟨mk, fun g' => by rw [← eval_agree ha]; exact hf g', hv⟩, hg⟩
    · exact .inr h

/-- Two operations that may come in either order. -/
structure Unord (a i : DB) : Prop where
  free : i.1.2.1.testBit a.1.1 = false
  big : ¬ ((a.cls = 3 ∧ 2 ≤ i.cls) ∨ (i.cls = 3 ∧ 2 ≤ a.cls))
  late : ¬ (a.cls = 3 ∧ i.cls = 1)
  reads : ∀ p, a.x.dst = some p → p ∉ i.x.reads
  dst : ∀ p, a.x.dst = some p → i.x.dst ≠ some p
  reads' : ∀ p, i.x.dst = some p → p ∉ a.x.reads
/-- Of two, the second comes later. -/
structure Later (a i : DB) : Prop where
  dst : ∀ p, a.x.dst = some p → i.x.dst ≠ some p
  reads : a.cls = 1 → ∀ p, i.x.dst = some p → p ∉ a.x.reads

theorem xclass_le (x : XOp) : xclass x ≤ 3 := by
  cases x <;> simp only [xclass] <;> first | omega | skip
  rename_i c y
  cases Nat.beq c 3 <;> decide

theorem evb0 {p : DB} (hc : p.cls = 0) {t d g v d1 g1} (h : EvB asm rc p t d g v d1 g1) : d1 = d ∧ g1 = g ∧ ∀ d' g', EvB asm rc p t d' g' v d' g' := by
  rcases h with ⟨_, h⟩ | ⟨h2, _⟩
  · obtain ⟨h1, h2, h3⟩ := ev0 hc h
    exact ⟨h1, h2, fun d' g' => .inl ⟨by omega, h3 d' g'⟩⟩
  · omega
theorem evb1 {p : DB} (hc : p.cls = 1) {t d g v d1 g1} (h : EvB asm rc p t d g v d1 g1) :
    d1 = d ∧ g1 = g ∧ (∀ d' g', (∀ b, ptrOf p.x.xop t = some b → hget g b ≠ .none → hget g' b = hget g b) → EvB asm rc p t d' g' v d' g') := by
  rcases h with ⟨_, h⟩ | ⟨h2, _⟩
  · obtain ⟨h1, h2, h3⟩ := ev1 hc h
    exact ⟨h1, h2, fun d' g' hg => .inl ⟨by omega, h3 d' g' hg⟩⟩
  · omega
theorem evb2 {p : DB} (hc : p.cls = 2) {t d g v d1 g1} (h : EvB asm rc p t d g v d1 g1) :
    d1 = d ∧ ((∃ o, g1 = layAt g p.2 o ∧ o ≠ .none ∧ ∀ d' g', EvB asm rc p t d' g' v d' (layAt g' p.2 o)) ∨ (g1 = g ∧ ∀ d' g', EvB asm rc p t d' g' v d' g')) := by
  rcases h with ⟨h2, _⟩ | ⟨_, hd, h⟩
  · omega
  · refine ⟨hd, ?_⟩
    rcases h with ⟨hw, o, hl, hg⟩ | ⟨hw, hv, hg⟩
    · exact .inl ⟨o, hg, hl.choose_spec.2.2, fun d' g' => .inr ⟨hc, rfl, .inl ⟨hw, o, hl, rfl⟩⟩⟩
    · exact .inr ⟨hg, fun d' g' => .inr ⟨hc, rfl, .inr ⟨hw, hv, rfl⟩⟩⟩
theorem layAt_comm (g : G) {b b' : Nat} (o o' : AO) (h : b ≠ b') : layAt (layAt g b o) b' o' = layAt (layAt g b' o') b o := by
  unfold layAt
  simp only [G.mk.injEq]
  have key : ∀ (t : Tr AO) (x y : AO), Tr.setN .none y (Tr.setN .none x t (b + 1)) (b' + 1) = Tr.setN .none x (Tr.setN .none y t (b' + 1)) (b + 1) := by
    intro t x y
    let f := max (b + 1) (b' + 1)
    have e1 : b + 1 ≤ f := Nat.le_max_left _ _
    have e2 : b' + 1 ≤ f := Nat.le_max_right _ _
    rw [setN_eq .none x t (b + 1) f e1, setN_eq .none y _ (b' + 1) f e2, setN_eq .none y t (b' + 1) f e2, setN_eq .none x _ (b + 1) f e1]
    exact setK_comm .none x y t _ _ (fun he => h (by have := pathF_inj (b + 1) (b' + 1) f (by omega) (by omega) e1 e2 he; omega))
  exact ⟨key _ _ _, by omega⟩

/-- The later one may be done first. -/
theorem swap {a i : DB} (hu : Unord a i) (hn : a.cls = 2 → i.cls = 2 → a.2 ≠ i.2) {t d g va da ga vi d1 g1} (ha : EvB asm rc a t d g va da ga) (hi : EvB asm rc i (putO t a.x.dst va) da ga vi d1 g1)
    (hW : i.cls = 2 → hget g i.2 = .none) (hL : i.cls = 1 → ∀ b, ptrOf i.x.xop t = some b → a.cls = 2 → a.2 ≠ b)
    (hA : i.cls = 3 → a.cls = 1 → EvB asm rc a t d1 g1 va d1 g1) :
    ∃ di gi, EvB asm rc i t d g vi di gi ∧ EvB asm rc a (putO t i.x.dst vi) di gi va d1 g1 := by
  have ag1 : Agree (putO t a.x.dst va) t i.x.reads := agree_put hu.reads
  have ag2 : Agree t (putO t i.x.dst vi) a.x.reads := (agree_put hu.reads').symm
  have hi' := hi.agree ag1
  have ca : a.cls ≤ 3 := xclass_le _
  have ci : i.cls ≤ 3 := xclass_le _
  have hbig := hu.big
  have hlate := hu.late
  by_cases c0 : i.cls = 0
  · obtain ⟨rfl, rfl, h3⟩ := evb0 c0 hi'
    exact ⟨d, g, h3 d g, ha.agree ag2⟩
  by_cases c1 : i.cls = 1
  · obtain ⟨rfl, rfl, h3⟩ := evb1 c1 hi'
    by_cases a0 : a.cls = 0
    · obtain ⟨rfl, rfl, _⟩ := evb0 a0 ha
      exact ⟨_, _, hi', ha.agree ag2⟩
    by_cases a1 : a.cls = 1
    · obtain ⟨rfl, rfl, _⟩ := evb1 a1 ha
      exact ⟨_, _, hi', ha.agree ag2⟩
    have a2 : a.cls = 2 := by omega
    obtain ⟨rfl, hg⟩ := evb2 a2 ha
    refine ⟨_, g, h3 _ g (fun b hb hne => ?_), ha.agree ag2⟩
    rcases hg with ⟨o, rfl, _⟩ | ⟨rfl, _⟩
    · have := hL c1 b hb a2
      rw [hget_layAt, if_neg this]
    · rfl
  by_cases c2 : i.cls = 2
  · by_cases a0 : a.cls = 0
    · obtain ⟨rfl, rfl, h3⟩ := evb0 a0 ha
      exact ⟨_, _, hi', (by obtain ⟨rfl, _⟩ := evb2 c2 hi'; exact (h3 _ _).agree ag2)⟩
    by_cases a1 : a.cls = 1
    · obtain ⟨rfl, rfl, h3⟩ := evb1 a1 ha
      obtain ⟨rfl, hg⟩ := evb2 c2 hi'
      refine ⟨_, _, hi', (h3 _ _ (fun b hb hne => ?_)).agree ag2⟩
      rcases hg with ⟨o, rfl, _⟩ | ⟨rfl, _⟩
      · rw [hget_layAt, if_neg (fun he => by subst he; exact hne (hW c2))]
      · rfl
    have a2 : a.cls = 2 := by omega
    have hne := hn a2 c2
    obtain ⟨rfl, hga⟩ := evb2 a2 ha
    obtain ⟨rfl, hgi⟩ := evb2 c2 hi'
    rcases hga with ⟨oa, rfl, _, ka⟩ | ⟨rfl, ka⟩
    · rcases hgi with ⟨oi, rfl, _, ki⟩ | ⟨rfl, ki⟩
      · refine ⟨_, _, ki _ g, ?_⟩
        rw [layAt_comm g _ _ hne]
        exact (ka _ (layAt g i.2 oi)).agree ag2
      · exact ⟨_, g, ki _ g, (ka _ _).agree ag2⟩
    · rcases hgi with ⟨oi, rfl, _, ki⟩ | ⟨rfl, ki⟩
      · exact ⟨_, _, hi', (ka _ _).agree ag2⟩
      · exact ⟨_, _, hi', (ka _ _).agree ag2⟩
  · have c3 : i.cls = 3 := by omega
    have asmall : a.cls ≤ 1 := by omega
    by_cases a0 : a.cls = 0
    · obtain ⟨rfl, rfl, h3⟩ := evb0 a0 ha
      exact ⟨_, _, hi', (h3 _ _).agree ag2⟩
    · have a1 : a.cls = 1 := by omega
      obtain ⟨rfl, rfl, h3⟩ := evb1 a1 ha
      exact ⟨_, _, hi', (hA c3 a1).agree ag2⟩
end Go.Sx
/-
  Regions that leave an order open: a run, and who may be done first.
-/
namespace Go.Sx
open Go

variable {asm : Asm} {rc : Cmd → Out}

inductive Run (asm : Asm) (rc : Cmd → Out) : List DB → List DB → Tr AV → List ADef → G → Tr AV → List ADef → G → Prop
  | nil {seen : List DB} {t : Tr AV} {d : List ADef} {g : G} : Run asm rc seen [] t d g t d g
  | cons {seen : List DB} {p : DB} {rest : List DB} {t : Tr AV} {d : List ADef} {g : G} {v : AV} {d1 : List ADef} {g1 : G} {t' : Tr AV} {d' : List ADef} {g' : G} (h : EvB asm rc p t d g v d1 g1)
      (ha : p.cls = 3 → ∀ q ∈ seen, q.cls = 1 → p.1.2.1.testBit q.1.1 = false → AgainX asm q.x (putO t p.x.dst v) g1)
      (hn : p.cls = 3 → ∀ q ∈ rest, q.cls = 2 → g1.next ≤ q.2)
      (hr : Run asm rc (p :: seen) rest (putO t p.x.dst v) d1 g1 t' d' g') : Run asm rc seen (p :: rest) t d g t' d' g'
theorem Run.less {seen : List DB} {l : List DB} {t d g t' d' g'} (h : Run asm rc seen l t d g t' d' g') : ∀ {seen' : List DB}, (∀ q ∈ seen', ∃ q0 ∈ seen, q0.1 = q.1) → Run asm rc seen' l t d g t' d' g' := by
  induction h with
  | nil => intro _ _; exact .nil
  | cons h ha hn _ ih =>
    intro seen' hs
    refine .cons h (fun h3 q hq c1 hb => ?_) hn (ih fun q hq => ?_)
    · obtain ⟨⟨q1, n1⟩, h1, h2⟩ := hs q hq
      obtain ⟨q2, n2⟩ := q
      cases h2
      exact ha h3 (q1, n1) h1 c1 hb
    · rcases List.mem_cons.1 hq with rfl | hq
      · exact ⟨_, List.mem_cons_self, rfl⟩
      · obtain ⟨q0, h1, h2⟩ := hs q hq
        exact ⟨q0, List.mem_cons_of_mem _ h1, h2⟩
theorem EvX.mono {x : XOper} {t d g v d1 g1} (h : EvX asm rc x t d g v d1 g1) : d1 = [] → d = [] := by
  rcases h with ⟨_, h⟩ | ⟨_, _, rfl, _⟩
  · exact oneR_mono h
  · exact id
theorem EvB.mono {p : DB} {t d g v d1 g1} (h : EvB asm rc p t d g v d1 g1) : d1 = [] → d = [] := by
  rcases h with ⟨_, h⟩ | ⟨_, rfl, _⟩
  · exact h.mono
  · exact id
theorem Run.mono {seen l : List DB} {t d g t' d' g'} (h : Run asm rc seen l t d g t' d' g') : d' = [] → d = [] := by
  induction h with
  | nil => exact id
  | cons h _ _ _ ih => exact fun hd => h.mono (ih hd)

theorem AgainX.agree {x : XOper} {t t' : Tr AV} {g : G} (h : AgainX asm x t g) (ha : Agree t t' x.reads) (hd : ∀ p, x.dst = some p → t.getK .any p = t'.getK .any p) : AgainX asm x t' g := by
  obtain ⟨p, hp, h⟩ := h
  refine ⟨p, hp, ?_⟩
  rw [← wantX_agree ha, ← eval_agree ha, ← hd p hp]
  exact h
/-- It reads again what it read. -/
theorem AgainX.ev {x : XOper} (hx : xclass x.xop = 1) {t : Tr AV} {d g va da ga} (h : EvX asm rc x t d g va da ga) (hs : ∀ p, x.dst = some p → p ∉ x.reads) {g1 : G} (ha : AgainX asm x (putO t x.dst va) g1) (d1 : List ADef) :
    EvX asm rc x t d1 g1 va d1 g1 := by
  obtain ⟨p, hp, ha⟩ := ha
  have ag : Agree (putO t x.dst va) t x.reads := agree_put hs
  rw [wantX_agree ag, eval_agree ag, hp, putO_same] at ha
  rcases h with ⟨hw, h⟩ | ⟨hw, rfl, rfl, rfl⟩
  · rcases ha with ⟨_, g', ha⟩ | ha
    · have h1 : OneR rc (evalOp asm x.xop t g1) d1 g1 va d1 g' := by rw [ha]; exact ⟨rfl, rfl, rfl⟩
      obtain ⟨_, rfl, _⟩ := class1_val hx h1
      exact .inl ⟨hw, h1⟩
    · rw [ha] at hw; cases hw
  · exact .inr ⟨hw, rfl, rfl, rfl⟩
theorem AgainX.evB {p : DB} (hx : p.cls = 1) {t : Tr AV} {d g va da ga} (h : EvB asm rc p t d g va da ga) (hs : ∀ q, p.x.dst = some q → q ∉ p.x.reads) {g1 : G} (ha : AgainX asm p.x (putO t p.x.dst va) g1) (d1 : List ADef) :
    EvB asm rc p t d1 g1 va d1 g1 := by
  rcases h with ⟨hc, h⟩ | ⟨hc, _⟩
  · exact .inl ⟨hc, ha.ev hx h hs d1⟩
  · omega

theorem ptrOf_agree {x : XOp} {t t' : Tr AV} (h : Agree t t' (xreads x)) : ptrOf x t = ptrOf x t' := by
  cases x <;> try rfl
  · unfold ptrOf; simp only; rw [opd_agree h]
  · unfold ptrOf; simp only; rw [opd_agree h]

/-- Who may be done first. -/
theorem front {i : DB} : ∀ (A : List DB) {seen B : List DB} {t : Tr AV} {d : List ADef} {g : G} {t' d' g'}, (∀ a ∈ A, Unord a i) → (∀ q ∈ seen, Unord q i) → (∀ a ∈ A, ∀ p, a.x.dst = some p → p ∉ a.x.reads) →
    (∀ q ∈ seen, ∀ a ∈ A, Later q a) → A.Pairwise Later → (∀ a ∈ A, a.cls = 2 → i.cls = 2 → a.2 ≠ i.2) → (i.cls = 2 → hget g i.2 = .none) → (i.cls = 1 → ∀ b, ptrOf i.x.xop t = some b → ∀ a ∈ A, a.cls = 2 → a.2 ≠ b) →
    Run asm rc seen (A ++ i :: B) t d g t' d' g' →
    ∃ v d1 g1, EvB asm rc i t d g v d1 g1 ∧ Run asm rc seen (A ++ B) (putO t i.x.dst v) d1 g1 t' d' g' ∧ (i.cls = 3 → ∀ q ∈ B, q.cls = 2 → g1.next ≤ q.2) ∧
      (i.cls = 3 → ∀ q ∈ seen, q.cls = 1 → AgainX asm q.x t g1)
  | [], seen, B, t, d, g, t', d', g', _, hs, _, _, _, _, _, _, h => by
    cases h with
    | cons h ha hn hr =>
      rename_i v d1 g1
      refine ⟨v, d1, g1, h, hr.less (fun q hq => ⟨q, List.mem_cons_of_mem _ hq, rfl⟩), hn, fun h3 q hq hq1 => ?_⟩
      exact (ha h3 q hq hq1 (hs q hq).free).agree (agree_put (hs q hq).reads') fun p hp => putO_get (fun he => (hs q hq).dst p hp he)
  | a :: A, seen, B, t, d, g, t', d', g', hA, hs, hself, hl, hp, hN, hW, hL, h => by
    cases h with
    | cons h ha hn hr =>
      rename_i va da ga
      have hu := hA a List.mem_cons_self
      have hpa := List.pairwise_cons.1 hp
      have hbig := hu.big
      have hlate := hu.late
      have ca : a.cls ≤ 3 := xclass_le _
      have agi : Agree (putO t a.x.dst va) t i.x.reads := agree_put hu.reads
      -- what a does to the blocks
      have hW1 : i.cls = 2 → hget ga i.2 = .none := fun c2 => by
        by_cases a0 : a.cls = 0
        · obtain ⟨_, rfl, _⟩ := evb0 a0 h; exact hW c2
        by_cases a1 : a.cls = 1
        · obtain ⟨_, rfl, _⟩ := evb1 a1 h; exact hW c2
        have a2 : a.cls = 2 := by omega
        obtain ⟨_, hg⟩ := evb2 a2 h
        rcases hg with ⟨o, rfl, _⟩ | ⟨rfl, _⟩
        · rw [hget_layAt, if_neg (hN a List.mem_cons_self a2 c2)]; exact hW c2
        · exact hW c2
      have hL1 : i.cls = 1 → ∀ b, ptrOf i.x.xop (putO t a.x.dst va) = some b → ∀ x ∈ A, x.cls = 2 → x.2 ≠ b := fun c1 b hb x hx => by
        rw [ptrOf_agree (fun p hp => agi p (reads_op hp))] at hb
        exact hL c1 b hb x (List.mem_cons_of_mem _ hx)
      obtain ⟨vi, d1, g1, e1, e2, e4, e3⟩ := front A (seen := a :: seen) (B := B) (fun x hx => hA x (List.mem_cons_of_mem _ hx))
        (fun q hq => by rcases List.mem_cons.1 hq with rfl | hq; exact hu; exact hs q hq) (fun x hx => hself x (List.mem_cons_of_mem _ hx))
        (fun q hq x hx => by rcases List.mem_cons.1 hq with rfl | hq; exact hpa.1 x hx; exact hl q hq x (List.mem_cons_of_mem _ hx)) hpa.2 (fun x hx => hN x (List.mem_cons_of_mem _ hx)) hW1 hL1 hr
      obtain ⟨di, gi, f1, f2⟩ := swap hu (hN a List.mem_cons_self) h e1 hW (fun c1 b hb => hL c1 b hb a List.mem_cons_self) (fun c3 c1 => (e3 c3 a List.mem_cons_self c1).evB c1 h (hself a List.mem_cons_self) d1)
      refine ⟨vi, di, gi, f1, ?_, fun c3 => ?_, fun c3 q hq c1 => ?_⟩
      · refine .cons f2 (fun a3 q hq c1 hb => ?_) ?_ ?_
        · -- i is of class 0 here
          have i0 : i.cls = 0 := by
            have : i.cls ≤ 3 := xclass_le _
            omega
          obtain ⟨_, rfl, _⟩ := evb0 i0 e1
          have hq' := hs q hq
          rw [← putO_comm (fun p hp => hu.dst p hp)]
          exact (ha a3 q hq c1 hb).agree (agree_put hq'.reads').symm fun p hp => (putO_get (fun he => hq'.dst p hp he)).symm
        · intro a3 q hq q2
          have i0 : i.cls = 0 := by
            have : i.cls ≤ 3 := xclass_le _
            omega
          obtain ⟨_, rfl, _⟩ := evb0 i0 e1
          exact hn a3 q (by rcases List.mem_append.1 hq with hq | hq; exact List.mem_append_left _ hq; exact List.mem_append_right _ (List.mem_cons_of_mem _ hq)) q2
        · rw [← putO_comm (fun p hp => hu.dst p hp)]
          exact e2
      · have hgi : g1 = gi := by
          by_cases a0 : a.cls = 0
          · exact (evb0 a0 f2).2.1
          · exact (evb1 (by omega) f2).2.1
        subst hgi
        exact e4 c3
      · -- heavy: a is light, so the blocks are what they are behind i
        have hgi : g1 = gi := by
          by_cases a0 : a.cls = 0
          · exact (evb0 a0 f2).2.1
          · exact (evb1 (by omega) f2).2.1
        subst hgi
        have hla := hl q hq a List.mem_cons_self
        exact (e3 c3 q (List.mem_cons_of_mem _ hq) c1).agree (agree_put fun p hp => hla.reads c1 p hp) fun p hp => putO_get fun he => hla.dst p hp he
end Go.Sx
/-
  Regions that leave an order open: they come to what the evaluator reckons.
-/
namespace Go.Sx
open Go

/-! ### Values that are written alike are one -/
theorem ACap.eq_eq : ∀ {a b : ACap}, a.eq b = true → a = b
  | .known a, .known b, h => by rw [beq_t h]
  | .room a, .room b, h => by rw [beq_t h]
  | .known _, .room _, h => by cases h
  | .room _, .known _, h => by cases h
mutual
theorem AV.eq_eq : ∀ (a b : AV), a.eq b = true → a = b
  | .any, b, h => by cases b <;> simp [AV.eq] at h
  | .bool a, b, h => by cases b <;> simp [AV.eq] at h; rw [SB.eq_eq h]
  | .int k a, b, h => by cases b <;> simp [AV.eq] at h; rw [kindEq_eq h.1, SE.eq_eq h.2]
  | .ptr0, b, h => by cases b <;> simp [AV.eq] at h; rfl
  | .ptr x y, b, h => by cases b <;> simp [AV.eq] at h; rw [h.1, h.2]
  | .ptrS x i s y, b, h => by cases b <;> simp [AV.eq] at h; rw [h.1.1.1, SE.eq_eq h.1.1.2, h.1.2, h.2]
  | .slice0, b, h => by cases b <;> simp [AV.eq] at h; rfl
  | .emp z, b, h => by cases b <;> simp [AV.eq] at h
  | .slice x y n c, b, h => by cases b <;> simp [AV.eq] at h; rw [h.1.1.1, h.1.1.2, SE.eq_eq h.1.2, ACap.eq_eq h.2]
  | .map0, b, h => by cases b <;> simp [AV.eq] at h; rfl
  | .map r, b, h => by cases b <;> simp [AV.eq] at h; rw [h]
  | .chan0, b, h => by cases b <;> simp [AV.eq] at h; rfl
  | .chan r, b, h => by cases b <;> simp [AV.eq] at h; rw [h]
  | .func f x y, b, h => by
    cases b <;> simp [AV.eq] at h
    rw [h.1.1, AV.eqL_eq x _ h.1.2, AV.eqL_eq y _ h.2]
  | .yield l, b, h => by cases b <;> simp [AV.eq] at h; rw [h]
  | .nilFunc, b, h => by cases b <;> simp [AV.eq] at h; rfl
  | .iface t a, b, h => by cases b <;> simp [AV.eq] at h; rw [h.1, AV.eq_eq a _ h.2]
  | .nilIface, b, h => by cases b <;> simp [AV.eq] at h; rfl
  | .agg x, b, h => by cases b <;> simp [AV.eq] at h; rw [AV.eqL_eq x _ h]
  | .tup x, b, h => by cases b <;> simp [AV.eq] at h; rw [AV.eqL_eq x _ h]
theorem AV.eqL_eq : ∀ (a b : List AV), AV.eqL a b = true → a = b
  | [], b, h => by cases b <;> simp [AV.eqL] at h; rfl
  | x :: a, b, h => by cases b <;> simp [AV.eqL] at h; rw [AV.eq_eq x _ h.1, AV.eqL_eq a _ h.2]
end

variable {asm : Asm} {rc : Cmd → Out}

/-! ### What a step is -/
theorem stepOp_ev {x : XOper} {t : Tr AV} {d : List ADef} {g : G} {k : Tr AV → List ADef → G → Out} {ex t' d' g'} (h : stepOp asm rc x t d g k = .code ex t' d' g') :
    ∃ v d1 g1, EvX asm rc x t d g v d1 g1 ∧ k (putO t x.dst v) d1 g1 = .code ex t' d' g' := by
  cases x with
  | op p o =>
    obtain ⟨v, d1, g1, h1, h2⟩ := opK_inv (show opK rc t (some p) d (evalOp asm o t g) k g = _ from h)
    exact ⟨v, d1, g1, .inl ⟨rfl, h1⟩, h2⟩
  | st o =>
    obtain ⟨v, d1, g1, h1, h2⟩ := opK_inv (show opK rc t none d (evalOp asm o t g) k g = _ from h)
    exact ⟨v, d1, g1, .inl ⟨rfl, h1⟩, h2⟩
  | gop gp w p o =>
    have h' : (match wantedV (t.getK .any gp) w with
      | some true => opK rc t (some p) d (evalOp asm o t g) k g
      | some false => k (putP t p undef) d g
      | none => .fail 103) = .code ex t' d' g' := h
    split at h'
    · rename_i hw
      obtain ⟨v, d1, g1, h1, h2⟩ := opK_inv h'
      exact ⟨v, d1, g1, .inl ⟨hw, h1⟩, h2⟩
    · rename_i hw
      exact ⟨undef, d, g, .inr ⟨hw, rfl, rfl, rfl⟩, h'⟩
    · cases h'
  | gst gp w o =>
    have h' : (match wantedV (t.getK .any gp) w with
      | some true => opK rc t none d (evalOp asm o t g) k g
      | some false => k t d g
      | none => .fail 104) = .code ex t' d' g' := h
    split at h'
    · rename_i hw
      obtain ⟨v, d1, g1, h1, h2⟩ := opK_inv h'
      exact ⟨v, d1, g1, .inl ⟨hw, h1⟩, h2⟩
    · rename_i hw
      exact ⟨undef, d, g, .inr ⟨hw, rfl, rfl, rfl⟩, h'⟩
    · cases h'
theorem opK_of {p : Option (List Bool)} {t : Tr AV} {d : List ADef} {r : OpR} {g0 : G} {v d1 g1} (h : OneR rc r d g0 v d1 g1) :
    opK rc t p d r (fun t d g => .code .normal t d g) g0 = .code .normal (putO t p v) d1 g1 := by
  cases r with
  | fail n => exact h.elim
  | val x g => obtain ⟨rfl, rfl, rfl⟩ := h; cases p <;> rfl
  | skip g => obtain ⟨rfl, rfl, rfl⟩ := h; cases p <;> rfl
  | defer y => obtain ⟨rfl, rfl, rfl⟩ := h; cases p <;> rfl
  | enter f as g =>
    obtain ⟨h1, rfl⟩ := h
    unfold opK; simp only; rw [h1]; cases p <;> rfl
  | round l as g =>
    obtain ⟨h1, rfl⟩ := h
    unfold opK; simp only; rw [h1]; cases p <;> rfl
theorem stepOp_of {x : XOper} {t : Tr AV} {d : List ADef} {g : G} {v d1 g1} (h : EvX asm rc x t d g v d1 g1) :
    stepOp asm rc x t d g (fun t d g => .code .normal t d g) = .code .normal (putO t x.dst v) d1 g1 := by
  cases x with
  | op p o =>
    rcases h with ⟨_, h⟩ | ⟨h, _⟩
    · exact opK_of (p := some p) (r := evalOp asm o t g) h
    · cases h
  | st o =>
    rcases h with ⟨_, h⟩ | ⟨h, _⟩
    · exact opK_of (p := none) (r := evalOp asm o t g) h
    · cases h
  | gop gp w p o =>
    show (match wantedV (t.getK .any gp) w with
      | some true => opK rc t (some p) d (evalOp asm o t g) (fun t d g => .code .normal t d g) g
      | some false => .code .normal (putP t p undef) d g
      | none => .fail 103) = _
    rcases h with ⟨hw, h⟩ | ⟨hw, rfl, rfl, rfl⟩
    · rw [show wantedV (t.getK .any gp) w = some true from hw]; exact opK_of h
    · rw [show wantedV (t.getK .any gp) w = some false from hw]; rfl
  | gst gp w o =>
    show (match wantedV (t.getK .any gp) w with
      | some true => opK rc t none d (evalOp asm o t g) (fun t d g => .code .normal t d g) g
      | some false => .code .normal t d g
      | none => .fail 104) = _
    rcases h with ⟨hw, h⟩ | ⟨hw, rfl, rfl, rfl⟩
    · rw [show wantedV (t.getK .any gp) w = some true from hw]; exact opK_of h
    · rw [show wantedV (t.getK .any gp) w = some false from hw]; rfl
theorem again_ev {x : XOper} {t : Tr AV} {g : G} (h : again asm t g x = true) : AgainX asm x t g := by
  cases x with
  | op p o =>
    have h' : (match evalOp asm o t g with | .val v _ => v.eq (t.getK .any p) | _ => false) = true := h
    split at h'
    · rename_i v g' hv
      exact ⟨p, rfl, .inl ⟨rfl, g', by rw [← AV.eq_eq _ _ h']; exact hv⟩⟩
    · cases h'
  | st o => cases h
  | gop gp w p o =>
    have h' : (match wantedV (t.getK .any gp) w with
      | some true => (match evalOp asm o t g with | .val v _ => v.eq (t.getK .any p) | _ => false)
      | some false => true
      | none => false) = true := h
    split at h'
    · rename_i hw
      split at h'
      · rename_i v g' hv
        exact ⟨p, rfl, .inl ⟨hw, g', by rw [← AV.eq_eq _ _ h']; exact hv⟩⟩
      · cases h'
    · rename_i hw
      exact ⟨p, rfl, .inr hw⟩
    · cases h'
  | gst gp w o => cases h
theorem allAgain_mem {t : Tr AV} {g : G} : ∀ {l : List XOper}, allAgain asm t g l = true → ∀ x ∈ l, again asm t g x = true
  | [], _, _, hx => by cases hx
  | y :: l, h, x, hx => by
    have h' : (again asm t g y && allAgain asm t g l) = true := h
    rw [Bool.and_eq_true] at h'
    rcases List.mem_cons.1 hx with rfl | hx
    · exact h'.1
    · exact allAgain_mem h'.2 x hx
theorem optMap_mem {α β : Type} {f : α → Option β} : ∀ {l : List α} {r : List β}, optMap f l = some r → ∀ x ∈ l, ∃ y, f x = some y ∧ y ∈ r
  | [], _, _, _, hx => by cases hx
  | a :: l, r, h, x, hx => by
    obtain ⟨b, s, h1, h2, rfl⟩ := optMap_cons h
    rcases List.mem_cons.1 hx with rfl | hx
    · exact ⟨b, h1, List.mem_cons_self⟩
    · obtain ⟨y, h3, h4⟩ := optMap_mem h2 x hx
      exact ⟨y, h3, List.mem_cons_of_mem _ h4⟩

section
variable {P : Program} {nt : Nat}
/-- It stands so in the region. -/
def IsD (P : Program) (nt : Nat) (ops : List Oper) (p : DOp) : Prop := ∃ o, ops[p.1]? = some o ∧ compOper P nt ops o = some p.2.2.1 ∧ p.2.1 = (aheadOf ops).getD p.1 0
theorem dopsOf_is {ops : List Oper} {l : List DOp} (h : dopsOf P nt ops = some l) : ∀ p ∈ l, IsD P nt ops p := by
  have key : ∀ (ol : List (Nat × List Nat)) (l : List DOp), optMap (fun (p : Nat × List Nat) => match ops[p.1]? with
    | some o => match compOper P nt ops o with
      | some x => some (p.1, (aheadOf ops).getD p.1 0, x, p.2)
      | none => none
    | none => none) ol = some l → ∀ p ∈ l, IsD P nt ops p := by
    intro ol
    induction ol with
    | nil => intro l h p hp; rw [optMap_nil h] at hp; cases hp
    | cons q ol ih =>
      intro l h p hp
      obtain ⟨b, s, h1, h2, rfl⟩ := optMap_cons h
      rcases List.mem_cons.1 hp with rfl | hp
      · split at h1
        · rename_i o ho
          split at h1
          · rename_i x hx
            cases h1
            exact ⟨o, ho, hx, rfl⟩
          · cases h1
        · cases h1
      · exact ih s h2 p hp
  exact key _ l h

/-- Allocations' numbers differ. -/
def NumD (a b : DB) : Prop := a.cls = 2 → b.cls = 2 → a.2 ≠ b.2
theorem run_of_fold {ops : List Oper} : ∀ (l : List DOp) {seen : List DB} {xs : List (XOper × List XOper)} {t d g ex t' d' g'}, (∀ p ∈ l, IsD P nt ops p) → (∀ p ∈ seen, IsD P nt ops p.1) → loadsAll (seen.map (·.1)) l = true →
    optMap (fun (p : DOp) => match optMap (fun i => match ops[i]? with | some q => compOper P nt ops q | none => none) p.2.2.2 with
      | some r => some (p.2.2.1, r)
      | none => none) l = some xs → foldOpsD asm rc xs t d g = .code ex t' d' g' →
    ex = .normal ∧ ∃ lb : List DB, lb.map (·.1) = l ∧ Run asm rc seen lb t d g t' d' g' ∧ lb.Pairwise NumD ∧ ∀ q ∈ lb, q.cls = 2 → g.next ≤ q.2
  | [], seen, xs, t, d, g, ex, t', d', g', _, _, _, hx, h => by
    rw [optMap_nil hx] at h
    cases h
    exact ⟨rfl, [], rfl, .nil, .nil, fun q hq => by cases hq⟩
  | p :: l, seen, xs, t, d, g, ex, t', d', g', hl, hs, hlo, hx, h => by
    obtain ⟨b, s, h1, h2, rfl⟩ := optMap_cons hx
    split at h1
    · rename_i r hr
      cases h1
      have hlo' : (loadsOk (seen.map (·.1)) p && loadsAll (p :: seen.map (·.1)) l) = true := hlo
      rw [Bool.and_eq_true] at hlo'
      obtain ⟨v, d1, g1, h3, h4⟩ := stepOp_ev (show stepOp asm rc p.2.2.1 t d g (fun t d g1 => cond (Nat.ble g.next g1.next && allAgain asm t g1 r) (foldOpsD asm rc s t d g1) (.fail 105)) = _ from h)
      cases hcnd : (Nat.ble g.next g1.next && allAgain asm (putO t p.2.2.1.dst v) g1 r)
      · rw [hcnd] at h4; cases h4
      · rw [hcnd, cond_true] at h4
        simp only [Bool.and_eq_true] at hcnd
        have hmon := ble_le hcnd.1
        have hag := hcnd.2
        obtain ⟨h5, lb, m1, h6, h7, h8⟩ := run_of_fold l (seen := (p, 0) :: seen) (fun q hq => hl q (List.mem_cons_of_mem _ hq))
          (fun q hq => by rcases List.mem_cons.1 hq with rfl | hq; exact hl p List.mem_cons_self; exact hs q hq) hlo'.2 h2 h4
        -- with a number
        have fin : ∀ n, EvB asm rc (p, n) t d g v d1 g1 → (xclass p.2.2.1.xop = 2 → g.next ≤ n ∧ ∀ q ∈ lb, q.cls = 2 → n ≠ q.2) →
            ex = .normal ∧ ∃ lb : List DB, lb.map (·.1) = p :: l ∧ Run asm rc seen lb t d g t' d' g' ∧ lb.Pairwise NumD ∧ ∀ q ∈ lb, q.cls = 2 → g.next ≤ q.2 := by
          intro n hev hnum
          refine ⟨h5, (p, n) :: lb, by simp [m1], .cons hev (fun c3 q hq c1 hb => ?_) (fun _ q hq q2 => h8 q hq q2) (h6.less fun q hq => ?_), .cons (fun q hq c2 q2 => (hnum c2).2 q hq q2) h7, fun q hq q2 => ?_⟩
          · have h7 := hlo'.1
            unfold loadsOk at h7
            rw [show xclass p.2.2.1.xop = 3 from c3] at h7
            have h8 := h7
            rw [show Nat.beq 3 3 = true from rfl, cond_true, List.all_eq_true] at h8
            have h9 := h8 q.1 (List.mem_map.2 ⟨q, hq, rfl⟩)
            rw [show xclass q.1.2.2.1.xop = 1 from c1, hb] at h9
            simp at h9
            obtain ⟨o, ho, hxo, _⟩ := hs q hq
            obtain ⟨y, hy, hm⟩ := optMap_mem hr q.1.1 h9
            rw [ho] at hy
            simp only at hy
            rw [hxo] at hy
            cases hy
            exact again_ev (allAgain_mem hag _ hm)
          · rcases List.mem_cons.1 hq with rfl | hq
            · exact ⟨(p, 0), List.mem_cons_self, rfl⟩
            · exact ⟨q, List.mem_cons_of_mem _ hq, rfl⟩
          · rcases List.mem_cons.1 hq with rfl | hq
            · exact (hnum q2).1
            · exact Nat.le_trans hmon (h8 q hq q2)
        by_cases c2 : xclass p.2.2.1.xop = 2
        · rcases h3 with ⟨hw, h3⟩ | ⟨hw, rfl, rfl, rfl⟩
          · -- it lays a block
            cases hev : evalOp asm p.2.2.1.xop t g with
            | val w g2 =>
              rw [hev] at h3
              obtain ⟨rfl, rfl, rfl⟩ := h3
              obtain ⟨mk, o, hf, hno⟩ := class2_form c2 hev
              have hfg := hf g
              rw [hev] at hfg
              cases hfg
              refine fin g.next (.inr ⟨c2, rfl, .inl ⟨hw, o, ⟨mk, hf, rfl, hno⟩, ?_⟩⟩) (fun _ => ⟨Nat.le_refl _, fun q hq q2 => ?_⟩)
              · unfold hnew layAt
                simp only [G.mk.injEq, true_and]
                omega
              · have : g.next + 1 ≤ q.2 := h8 q hq q2
                omega
            | fail n => rw [hev] at h3; exact h3.elim
            | skip g2 => rcases class2_res c2 t g with ⟨n, hn⟩ | ⟨w, g3, hn⟩ <;> rw [hn] at hev <;> cases hev
            | enter f as g2 => rcases class2_res c2 t g with ⟨n, hn⟩ | ⟨w, g3, hn⟩ <;> rw [hn] at hev <;> cases hev
            | round f as g2 => rcases class2_res c2 t g with ⟨n, hn⟩ | ⟨w, g3, hn⟩ <;> rw [hn] at hev <;> cases hev
            | defer y => rcases class2_res c2 t g with ⟨n, hn⟩ | ⟨w, g3, hn⟩ <;> rw [hn] at hev <;> cases hev
          · -- it is not wanted: a number beyond all
            let n := lb.foldl (fun m q => max m q.2) g1.next + 1
            have hmax : ∀ (l : List DB) (m : Nat), m ≤ l.foldl (fun m q => max m q.2) m ∧ ∀ q ∈ l, q.2 ≤ l.foldl (fun m q => max m q.2) m := by
              intro l
              induction l with
              | nil => intro m; exact ⟨Nat.le_refl _, fun q hq => by cases hq⟩
              | cons x l ih =>
                intro m
                obtain ⟨i1, i2⟩ := ih (max m x.2)
                refine ⟨Nat.le_trans (Nat.le_max_left _ _) i1, fun q hq => ?_⟩
                rcases List.mem_cons.1 hq with rfl | hq
                · exact Nat.le_trans (Nat.le_max_right _ _) i1
                · exact i2 q hq
            obtain ⟨i1, i2⟩ := hmax lb g1.next
            refine fin n (.inr ⟨c2, rfl, .inr ⟨hw, rfl, rfl⟩⟩) (fun _ => ⟨by omega, fun q hq q2 => ?_⟩)
            have := i2 q hq
            omega
        · exact fin 0 (.inl ⟨c2, h3⟩) (fun h => absurd h c2)
    · cases h1
end
end Go.Sx
/-
  The operations that lay a block, whatever its number.
-/
namespace Go.Sx
open Go

variable {P : Program} {R : Nat → Prop} {e : Env} {g : G} {W : World} {asm : Asm} {t : Tr AV} {a : Act} {nt : Nat}

/-- It lays a block: what, and what its value is, told by the block's number. -/
def GoodA (P : Program) (e : Env) (W : World) (res : Result Next) (f : G → OpR) : Prop :=
  (∀ g, ∃ n, f g = .fail n) ∨ ∃ (mk : Nat → AV) (o : AO) (ob : Obj) (n : Nat) (y : Value), (∀ g, f g = .val (mk g.next) (hnew g o)) ∧ res = .ok (.value y) { W with heap := W.heap.push ob } ∧ o ≠ .none ∧
    ∀ e', e.Lw e' → OR P e' o n ob ∧ ∀ b, e'.blk b = some (W.heap.size, n) → VR e' (mk b) y
theorem GoodA.of {res : Result Next} {f : G → OpR} (mk : Nat → AV) (o : AO) (ob : Obj) (n : Nat) (y : Value) (hf : ∀ g, f g = .val (mk g.next) (hnew g o)) (hr : res = .ok (.value y) { W with heap := W.heap.push ob }) (hn : o ≠ .none)
    (hor : ∀ e', e.Lw e' → OR P e' o n ob) (hv : ∀ e' b, e.Lw e' → e'.blk b = some (W.heap.size, n) → VR e' (mk b) y) : GoodA P e W res f :=
  .inr ⟨mk, o, ob, n, y, hf, hr, hn, fun e' l => ⟨hor e' l, fun b hb => hv e' b l hb⟩⟩

section
variable (H : Here P R e g W asm t a nt)
include H
omit H in
theorem a_new {ty : TypeId} {z : List AV} (h : zeroC P ty = some z) :
    GoodA P e W ((do pure (.value (← Instr.alloc ty true (.tuple #[]))) : Sem Next).run P W) (fun g => o_new z t g) := by
  obtain ⟨x, hx, hv⟩ := zeroC_run h e W
  refine GoodA.of (fun b => .ptr b 0) (.cells z true true) (.cells x.cells ty (0, 0)) x.cells.size (.pointer (some ⟨W.heap.size, 0, none⟩)) (fun g => rfl) ?_ (fun h => by cases h) (fun e' l => OR.new (VRs.le l _ _ hv)) (fun e' b l hb => ⟨_, _, hb, rfl⟩)
  simp [Instr.alloc, hx, newVar, newRow, Result.andThen]
theorem a_box {ty : TypeId} {o : Operand} {x : XOpd} (h : compO nt o = some x) :
    GoodA P e W ((do pure (.value (← Instr.box ty (a.eval o))) : Sem Next).run P W) (fun g => o_box x t g) := by
  have hv := H.opd h
  cases hc : cellsOf (opd t x) with
  | none => exact .inl fun g => ⟨29, by unfold o_box; rw [hc]⟩
  | some cs =>
    have hcs := hv.cells hc
    refine GoodA.of (fun b => .ptr b 0) (.cells cs true true) (.cells (a.eval o).cells ty (0, 0)) (a.eval o).cells.size (.pointer (some ⟨W.heap.size, 0, none⟩)) (fun g => by unfold o_box; rw [hc]) ?_ (fun h => by cases h)
      (fun e' l => OR.new (VRs.le l _ _ hcs)) (fun e' b l hb => ⟨_, _, hb, rfl⟩)
    simp [Instr.box, newVar, newRow, Result.andThen]
omit H in
theorem a_mkMap {ty : TypeId} : GoodA P e W ((do pure (.value (← Instr.makeMap ty none)) : Sem Next).run P W) (fun g => o_mkMap t g) :=
  GoodA.of (fun b => .map b) (.map []) (.map #[] 0) 0 (.map (some W.heap.size)) (fun g => rfl) (by simp [Instr.makeMap, Result.andThen]) (fun h => by cases h) (fun e' _ => trivial) (fun e' b _ hb => ⟨_, _, hb, rfl⟩)
theorem a_mkChan {ty el : TypeId} {i : TypeInfo} {dir : ChanDir} {o : Operand} {x : XOpd} (h : compO nt o = some x) (hu : P.underlying ty = some (.chan dir el)) (hi : P.info? el = some i) (hb : i.bytes ≤ 1048576) :
    GoodA P e W ((do pure (.value (← Instr.makeChan ty (a.eval o))) : Sem Next).run P W) (fun g => o_mkChan x t g) := by
  have hx := H.opd h
  by_cases hk : ∃ k n, opd t x = .int k (.lit n) ∧ (negN k n || Nat.ble 65536 n) = false
  · obtain ⟨k, n, he, hc⟩ := hk
    rw [he] at hx
    obtain ⟨h1, h2⟩ := hx.int
    simp only [SE.ev] at h1
    have hc' := hc
    simp only [Bool.or_eq_false_iff] at hc
    have hlt := ble_lt hc.2
    rw [toI_nonneg hc.1] at h1
    rw [h1]
    refine GoodA.of (fun b => .chan b) (.chan n []) (.chan n #[] false 0 0 false) 0 (.chan (some W.heap.size)) (fun g => by unfold o_mkChan; rw [he]; simp only; rw [hc']; rfl) ?_ (fun h => by cases h) (fun e' _ => ⟨rfl, rfl, rfl, trivial⟩) (fun e' b _ hb => ⟨_, _, hb, rfl⟩)
    have q0 : i.bytes * n ≤ 68719476736 := Nat.mul_le_mul hb (Nat.le_of_lt hlt)
    have q : (i.bytes : Int) * (n : Int) ≤ 68719476736 := by
      rw [← Int.natCast_mul]; omega
    have q5 : ¬ ((n : Int) < 0 ∨ (n : Int) > IntKind.i64.max ∨ (i.bytes : Int) * (n : Int) > 2 ^ 48 - 112) := by
      rw [show IntKind.i64.max = 9223372036854775807 by decide, show (2 : Int) ^ 48 - 112 = 281474976710544 by decide]
      rintro (h | h | h) <;> omega
    simp only [Instr.makeChan, asInt, asIntOf, Sem.run_bind, Sem.run_pure, run_underlying hu, info_run hi, Result.andThen, if_neg q5, run_newObj]
    rfl
  · by_cases hl : ∃ k n, opd t x = .int k (.lit n)
    · obtain ⟨k, n, he⟩ := hl
      refine .inl fun g => ⟨77, ?_⟩
      unfold o_mkChan; rw [he]; simp only
      cases hc : (negN k n || Nat.ble 65536 n)
      · exact absurd ⟨k, n, he, hc⟩ hk
      · rfl
    · refine .inl fun g => ⟨78, ?_⟩
      unfold o_mkChan
      split
      · rename_i k n he; exact absurd ⟨k, n, he⟩ hl
      · rfl
theorem a_buildSlice {ty el : TypeId} {n s : Nat} {z : List AV} {parts : Array (Nat × Operand)} {ps : List (Nat × Nat × XOpd)} (hz : zeroC P el = some z) (hu : P.underlying ty = some (.slice el))
    (hs : sizeT P el = some s) (hp : partsAt nt s parts = some ps) (h1 : n * s ≤ 16777216) (h0 : s ≠ 0) (h2 : z.length = s) :
    GoodA P e W ((do pure (.value (← Instr.buildSlice ty n (parts.map fun (i, x) => (i, a.eval x)))) : Sem Next).run P W) (fun g => o_buildSlice z n ps t g) := by
  obtain ⟨x, hx, hv⟩ := zeroC_run hz e W
  cases hl : fillAt t ps (lrep z n) with
  | none => exact .inl fun g => ⟨33, by unfold o_buildSlice; rw [hl]⟩
  | some l =>
    have key : ∃ zero : Array Value, ((n * s = 0 ∧ zero = #[]) ∨ (n * s ≠ 0 ∧ zero = x.cells)) ∧ VRs e (lrep z n) ((Array.range (n * s)).map (fun i => zero[i % zero.size]!)).toList := by
      by_cases hn : n * s = 0
      · have hn0 : n = 0 := by rcases Nat.mul_eq_zero.1 hn with h | h <;> omega
        subst hn0
        refine ⟨#[], .inl ⟨hn, rfl⟩, ?_⟩
        simp [lrep_eq, VRs]
      · exact ⟨x.cells, .inr ⟨hn, rfl⟩, zeros_sound hv (by rw [h2]) (by omega)⟩
    obtain ⟨zero, k1, k2⟩ := key
    obtain ⟨arr', f1, f2⟩ := fill_sound (place := fun i => some (i * s, s)) ps _ (lrep z n) l _ (partsAt_sound H parts.toList ps hp) k2 hl
    have hn24 : n ≤ 16777216 := by
      have : n * 1 ≤ n * s := Nat.mul_le_mul_left n (by omega)
      omega
    refine GoodA.of (fun b => .slice b 0 (.lit n) (.known n)) (.cells l true true) (.cells arr' el (0, 0)) arr'.size (.slice (some ⟨W.heap.size, 0, none⟩) n n) (fun g => by unfold o_buildSlice; rw [hl]) ?_ (fun h => by cases h)
      (fun e' l => OR.new (VRs.le l _ _ f2)) (fun e' b _ hb => ⟨_, _, hb, rfl, Nat.le_refl _, by simp [half]; omega⟩)
    simp only [Instr.buildSlice, Sem.run_bind, run_underlying hu, sizeT_run hs, Result.andThen, Array.toList_map]
    rw [if_neg (show ¬ n * s > 2 ^ 24 by omega)]
    rcases k1 with ⟨k1, rfl⟩ | ⟨k1, rfl⟩
    · rw [if_pos k1]
      simp only [Sem.run_pure, Result.andThen, Sem.run_bind]
      rw [f1]
      simp [newRow, Result.andThen]
    · rw [if_neg k1]
      simp only [Sem.run_pure, Result.andThen, Sem.run_bind, hx]
      rw [f1]
      simp [newRow, Result.andThen]
theorem a_mkSlice {ty el : TypeId} {i : TypeInfo} {z : List AV} {l c : Operand} {xl xc : XOpd} (hz : zeroC P el = some z) (hu : P.underlying ty = some (.slice el)) (hi : P.info? el = some i)
    (hl : compO nt l = some xl) (hc : compO nt c = some xc) (h0 : i.size ≠ 0) (h2 : z.length = i.size) :
    GoodA P e W ((do pure (.value (← Instr.makeSlice ty (a.eval l) (a.eval c))) : Sem Next).run P W) (fun g => o_mkSlice asm z i.bytes xl xc t g) := by
  obtain ⟨x, hx, hv⟩ := zeroC_run hz e W
  by_cases hk : ∃ kl el' kc ec ln cn, opd t xl = .int kl el' ∧ opd t xc = .int kc ec ∧ decN asm kl el' = some ln ∧ decN asm kc ec = some cn ∧
      (Nat.ble ln cn && Nat.ble cn 16777216 && Nat.ble (cn * i.bytes) 140737488355328 && !negN kl ln && !negN kc cn) = true
  · obtain ⟨kl, el', kc, ec, ln, cn, h3, h4, d1, d2, hcond⟩ := hk
    have hcond' := hcond
    simp only [Bool.and_eq_true, Bool.not_eq_true'] at hcond
    obtain ⟨⟨⟨⟨q1, q2⟩, q3⟩, q4⟩, q5⟩ := hcond
    have q1 := ble_le q1
    have q2 := ble_le q2
    have q3 := ble_le q3
    have el1 := idx_run H hl h3 d1 q4
    have ec1 := idx_run H hc h4 d2 q5
    rw [el1, ec1]
    have wl : IntKind.i64.wrap (ln : Int) = (ln : Int) := by
      rw [wrap_nat, Nat.mod_eq_of_lt (by simp [md]; omega)]
      exact toI_nonneg (by simp [negN, sgn, half]; exact ble_f (by omega))
    have wc : IntKind.i64.wrap (cn : Int) = (cn : Int) := by
      rw [wrap_nat, Nat.mod_eq_of_lt (by simp [md]; omega)]
      exact toI_nonneg (by simp [negN, sgn, half]; exact ble_f (by omega))
    have q6 : ((i.bytes : Int) * (cn : Int)) ≤ 140737488355328 := by rw [← Int.natCast_mul, Nat.mul_comm]; omega
    have key : ∃ zero : Array Value, ((cn * i.size = 0 ∧ zero = #[]) ∨ (cn * i.size ≠ 0 ∧ zero = x.cells)) ∧ VRs e (lrep z cn) ((Array.range (cn * i.size)).map (fun i => zero[i % zero.size]!)).toList := by
      by_cases hn : cn * i.size = 0
      · have hn0 : cn = 0 := by rcases Nat.mul_eq_zero.1 hn with h | h <;> omega
        subst hn0
        refine ⟨#[], .inl ⟨hn, rfl⟩, ?_⟩
        simp [lrep_eq, VRs]
      · exact ⟨x.cells, .inr ⟨hn, rfl⟩, zeros_sound hv (by rw [h2]) (by omega)⟩
    obtain ⟨zero, k1, k2⟩ := key
    have hs : sizeT P el = some i.size := by simp [sizeT, hi]
    refine GoodA.of (fun b => .slice b 0 (.lit ln) (.known cn)) (.cells (lrep z cn) true true) (.cells ((Array.range (cn * i.size)).map (fun i => zero[i % zero.size]!)) el (0, 0)) (cn * i.size) (.slice (some ⟨W.heap.size, 0, none⟩) ln cn)
      (fun g => by unfold o_mkSlice; rw [h3, h4]; simp only; rw [d1, d2]; simp only; rw [hcond']; rfl) ?_ (fun h => by cases h)
      (fun e' l => by have := OR.new (P := P) (own := true) (tl := true) (ty := el) (VRs.le l _ _ k2); simpa using this)
      (fun e' b _ hb => ⟨_, _, hb, rfl, q1, by simp [half]; omega⟩)
    have b1 : ¬ ((281474976710656 : Int) < (i.bytes : Int) * (cn : Int)) := by omega
    have b2 : ¬ ((cn : Int) < (ln : Int)) := by omega
    have b3 : ¬ ((cn : Int) < 0) := by omega
    have b4 : ¬ ((ln : Int) < 0) := by omega
    simp only [Instr.makeSlice, Sem.run_bind, run_underlying hu, asInt, asIntOf, Sem.run_pure, info_run hi, wl, wc, Result.andThen]
    rw [if_neg (by
      simp only [Bool.or_eq_true, decide_eq_true_eq, not_or]
      exact ⟨⟨⟨b3, by rw [show (2 : Int) ^ 48 = 281474976710656 by decide]; exact b1⟩, b4⟩, b2⟩)]
    simp only [Int.toNat_natCast, run_askRoom, sizeT_run hs, Sem.run_bind, Sem.run_pure, Result.andThen]
    rcases k1 with ⟨k1, rfl⟩ | ⟨k1, rfl⟩
    · rw [if_pos k1]
      simp [newRow, Result.andThen]
    · rw [if_neg k1]
      simp [newRow, hx, Result.andThen]
  · refine .inl fun g => ?_
    show ∃ n, o_mkSlice asm z i.bytes xl xc t g = .fail n
    unfold o_mkSlice
    split
    · rename_i kl el' kc ec h3 h4
      split
      · rename_i ln cn d1 d2
        cases hcond : (Nat.ble ln cn && Nat.ble cn 16777216 && Nat.ble (cn * i.bytes) 140737488355328 && !negN kl ln && !negN kc cn)
        · exact ⟨_, rfl⟩
        · exact absurd ⟨kl, el', kc, ec, ln, cn, h3, h4, d1, d2, hcond⟩ hk
      · exact ⟨_, rfl⟩
    · exact ⟨_, rfl⟩

/-- All operations that lay a block. -/
theorem alloc_ok {o : Oper} {x : XOp} (ho : compOp P nt o = some x) (hx : xclass x = 2) : GoodA P e W ((execOp a.eval o).run P W) (fun g => evalOp asm x t g) := by
  cases hop : o.op <;> simp only [compOp, hop] at ho
  case alloc ty =>
    split at ho
    · rename_i z h1
      cases ho
      have := a_new (e := e) (t := t) (W := W) h1
      simp only [execOp, hop]; exact this
    · cases ho
  case box ty y =>
    obtain ⟨z, h1, rfl⟩ := map_some ho
    have := a_box H (ty := ty) h1
    simp only [execOp, hop]; exact this
  case buildSlice ty n ps =>
    split at ho
    · rename_i el hu
      split at ho
      · rename_i s z hs hz
        split at ho
        · rename_i l hl
          obtain ⟨h1, h2⟩ := cond_some_none ho
          cases h2
          simp only [Bool.and_eq_true, Bool.not_eq_true'] at h1
          have := a_buildSlice H hz hu hs hl (ble_le h1.1.1) (beq_f h1.1.2) (beq_t h1.2)
          simp only [execOp, hop]; exact this
        · cases ho
      · cases ho
    · cases ho
  case makeMap ty r =>
    obtain ⟨h1, h2⟩ := cond_some_none ho
    cases h2
    have hr : r = none := by simpa using h1
    subst hr
    have := a_mkMap (P := P) (e := e) (t := t) (W := W) (ty := ty)
    simp only [execOp, hop, Option.map_none]; exact this
  case makeSlice ty l c =>
    split at ho
    · rename_i el xl xc hu h1 h2
      split at ho
      · rename_i i z hi hz
        obtain ⟨h3, h4⟩ := cond_some_none ho
        cases h4
        simp only [Bool.and_eq_true, Bool.not_eq_true'] at h3
        have := a_mkSlice H hz hu hi h1 h2 (beq_f h3.1) (beq_t h3.2)
        simp only [execOp, hop]; exact this
      · cases ho
    · cases ho
  case makeChan ty s =>
    split at ho
    · rename_i dr el z hu h1
      split at ho
      · rename_i i hi
        obtain ⟨h3, h4⟩ := cond_some_none ho
        cases h4
        have := a_mkChan H h1 hu hi (ble_le h3)
        simp only [execOp, hop]; exact this
      · cases ho
    · cases ho
  all_goals exfalso
  case makeFunc f as bs =>
    cases f <;> simp only at ho
    case func f =>
      split at ho
      · cases ho; simp [xclass] at hx
      · cases ho
    all_goals cases ho
  case slice ty y l h m =>
    split at ho
    · obtain ⟨_, ho⟩ := cond_none_some ho
      split at ho
      · obtain ⟨z, _, rfl⟩ := map_some ho; simp [xclass] at hx
      · obtain ⟨z, _, rfl⟩ := map_some ho; simp [xclass] at hx
      · cases ho
    · cases ho
  case select cs bl =>
    obtain ⟨_, ho⟩ := cond_none_some ho
    split at ho
    · split at ho
      · split at ho
        · split at ho
          · split at ho
            · obtain ⟨z, _, rfl⟩ := map_some ho; simp [xclass] at hx
            · cases ho
          · cases ho
        · obtain ⟨z, _, rfl⟩ := map_some ho; simp [xclass] at hx
      · cases ho
    · cases ho
  case convert s d y =>
    split at ho
    · cases ho; simp [xclass] at hx
    · rename_i z el h1 h2 h3
      split at ho
      · rename_i n hn
        cases hb : Nat.beq n 0
        · rw [hb] at ho; cases ho; simp [xclass] at hx
        · rw [hb] at ho; cases ho; simp [xclass] at hx
      · cases ho; simp [xclass] at hx
    · cases ho; simp [xclass] at hx
  case call c =>
    split at ho
    · split at ho
      · split at ho
        · cases ho; simp [xclass] at hx
        · obtain ⟨z, _, rfl⟩ := map_some ho; simp [xclass] at hx
      · obtain ⟨z, _, rfl⟩ := map_some ho; simp [xclass] at hx
      · split at ho
        · split at ho
          · obtain ⟨_, h⟩ := cond_some_none ho; cases h; simp [xclass] at hx
          · cases ho; exact absurd (show (0 : Nat) = 2 from hx) (by decide)
          · cases ho; exact absurd (show (3 : Nat) = 2 from hx) (by decide)
          · cases ho; exact absurd (show (3 : Nat) = 2 from hx) (by decide)
          · cases ho
        · split at ho
          · split at ho
            · obtain ⟨_, h⟩ := cond_none_some ho; cases h; simp [xclass] at hx
            · cases ho
          · cases ho
        · cases ho; simp [xclass] at hx
        · cases ho; simp [xclass] at hx
        · cases ho
    · cases ho
  all_goals first
    | (cases ho; done)
    | (obtain ⟨z, _, rfl⟩ := map_some ho; simp [xclass] at hx; done)
    | ((repeat' split at ho) <;> first
        | (cases ho; done)
        | (cases ho; simp [xclass] at hx; done)
        | (obtain ⟨z, _, rfl⟩ := map_some ho; simp [xclass] at hx; done)
        | (obtain ⟨_, h⟩ := cond_some_none ho; cases h; simp [xclass] at hx; done)
        | (obtain ⟨_, h⟩ := cond_none_some ho; cases h; simp [xclass] at hx; done)
        | (obtain ⟨_, h⟩ := cond_some_none ho; obtain ⟨z, _, rfl⟩ := map_some h; simp [xclass] at hx; done))
end
end Go.Sx
/-
  Regions that leave an order open: every order comes to what the evaluator reckons.
-/
namespace Go.Sx
open Go

/-! ### Who is ahead -/
def aheadStep (acc : List Nat) (o : Oper) : Nat := o.after.toList.foldl (fun s e => cond (Region.binds .any e) (s ||| 2 ^ e.on ||| acc.getD e.on 0) s) 0
theorem ahead_acc : ∀ (l : List Oper) (acc : List Nat), ∃ r, l.foldl (fun acc o => acc ++ [aheadStep acc o]) acc = acc ++ r ∧ r.length = l.length ∧
    ∀ (i : Nat) o, l[i]? = some o → r.getD i 0 = aheadStep ((acc ++ r).take (acc.length + i)) o
  | [], acc => ⟨[], by simp, rfl, fun i o h => by simp at h⟩
  | x :: l, acc => by
    obtain ⟨r, h1, h2, h3⟩ := ahead_acc l (acc ++ [aheadStep acc x])
    refine ⟨aheadStep acc x :: r, by rw [List.foldl_cons, h1]; simp, by simp [h2], fun i o ho => ?_⟩
    cases i with
    | zero =>
      cases ho
      simp
    | succ i =>
      have := h3 i o (by simpa using ho)
      simp only [List.getD_cons_succ]
      rw [this]
      simp only [List.append_assoc, List.singleton_append, List.length_append, List.length_cons, List.length_nil]
      rw [show acc.length + (0 + 1) + i = acc.length + (i + 1) by omega]
theorem bits_of : ∀ (es : List Edge) (acc : List Nat) (s j : Nat), (es.foldl (fun s e => cond (Region.binds .any e) (s ||| 2 ^ e.on ||| acc.getD e.on 0) s) s).testBit j = true →
    s.testBit j = true ∨ ∃ e ∈ es, Region.binds .any e = true ∧ (j = e.on ∨ (acc.getD e.on 0).testBit j = true)
  | [], _, _, _, h => .inl h
  | e :: es, acc, s, j, h => by
    rw [List.foldl_cons] at h
    rcases bits_of es acc _ j h with h | ⟨e', h1, h2⟩
    · cases hb : Region.binds .any e
      · rw [hb] at h; exact .inl h
      · rw [hb, cond_true, Nat.testBit_or, Nat.testBit_or, Nat.testBit_two_pow] at h
        simp only [Bool.or_eq_true, decide_eq_true_eq] at h
        rcases h with (h | h) | h
        · exact .inl h
        · exact .inr ⟨e, List.mem_cons_self, hb, .inl h.symm⟩
        · exact .inr ⟨e, List.mem_cons_self, hb, .inr h⟩
    · exact .inr ⟨e', List.mem_cons_of_mem _ h1, h2⟩
/-- Whose bit is set stands behind an edge. -/
theorem ahead_spec {ops : List Oper} {i : Nat} {o : Oper} (ho : ops[i]? = some o) {j : Nat} (h : ((aheadOf ops).getD i 0).testBit j = true) :
    ∃ e ∈ o.after.toList, Region.binds .any e = true ∧ (j = e.on ∨ ((aheadOf ops).getD e.on 0).testBit j = true) := by
  obtain ⟨r, h1, h2, h3⟩ := ahead_acc ops []
  have hr : aheadOf ops = r := by
    have : aheadOf ops = ops.foldl (fun acc o => acc ++ [aheadStep acc o]) [] := rfl
    rw [this, h1]; simp
  rw [hr, h3 i o ho] at h
  simp only [List.nil_append, List.length_nil, Nat.zero_add] at h
  rcases bits_of _ _ _ _ h with h | ⟨e, q1, q2, q3⟩
  · simp at h
  · refine ⟨e, q1, q2, ?_⟩
    rcases q3 with q3 | q3
    · exact .inl q3
    · refine .inr ?_
      rw [hr]
      have : (r.take i).getD e.on 0 = if e.on < i then r.getD e.on 0 else 0 := by
        simp only [List.getD_eq_getElem?_getD, List.getElem?_take]
        split <;> rfl
      rw [this] at q3
      split at q3
      · exact q3
      · simp at q3

theorem bits_keep : ∀ (es : List Edge) (acc : List Nat) (s j : Nat), s.testBit j = true → (es.foldl (fun s e => cond (Region.binds .any e) (s ||| 2 ^ e.on ||| acc.getD e.on 0) s) s).testBit j = true
  | [], _, _, _, h => h
  | e :: es, acc, s, j, h => by
    rw [List.foldl_cons]
    apply bits_keep es acc _ j
    cases Region.binds .any e
    · exact h
    · rw [cond_true, Nat.testBit_or, Nat.testBit_or, h]; rfl
theorem bits_edge : ∀ (es : List Edge) (acc : List Nat) (s : Nat) (e : Edge), e ∈ es → Region.binds .any e = true → (es.foldl (fun s e => cond (Region.binds .any e) (s ||| 2 ^ e.on ||| acc.getD e.on 0) s) s).testBit e.on = true
  | x :: es, acc, s, e, h, hb => by
    rw [List.foldl_cons]
    rcases List.mem_cons.1 h with rfl | h
    · apply bits_keep
      rw [hb, cond_true, Nat.testBit_or, Nat.testBit_or, Nat.testBit_two_pow]
      simp
    · exact bits_edge es acc _ e h hb
theorem ahead_edge {ops : List Oper} {i : Nat} {o : Oper} (ho : ops[i]? = some o) {e : Edge} (he : e ∈ o.after.toList) (hb : Region.binds .any e = true) : ((aheadOf ops).getD i 0).testBit e.on = true := by
  obtain ⟨r, h1, h2, h3⟩ := ahead_acc ops []
  have hr : aheadOf ops = r := by
    have : aheadOf ops = ops.foldl (fun acc o => acc ++ [aheadStep acc o]) [] := rfl
    rw [this, h1]; simp
  rw [hr, h3 i o ho]
  exact bits_edge _ _ _ e he hb

theorem comp_ptr {P : Program} {nt : Nat} {o : Oper} {x : XOp} (ho : compOp P nt o = some x) (hc : xclass x = 1) :
    (∃ y z n, compO nt y = some z ∧ x = .load n z) ∨ (∃ y z, compO nt y = some z ∧ x = .convP z) := by
  cases hop : o.op <;> simp only [compOp, hop] at ho
  case load ty y =>
    split at ho
    · rename_i n z hn hz
      cases ho
      exact .inl ⟨y, z, n, hz, rfl⟩
    · cases ho
  case convert s d y =>
    split at ho
    · cases ho; simp [xclass] at hc
    · rename_i z el h1 h2 h3
      split at ho
      · rename_i n hn
        cases hb : Nat.beq n 0
        · rw [hb] at ho; cases ho
          exact .inr ⟨y, z, h1, rfl⟩
        · rw [hb] at ho; cases ho; simp [xclass] at hc
      · cases ho; simp [xclass] at hc
    · cases ho; simp [xclass] at hc
  all_goals exfalso
  case makeFunc f as bs =>
    cases f <;> simp only at ho
    case func f =>
      split at ho
      · cases ho; simp [xclass] at hc
      · cases ho
    all_goals cases ho
  case slice ty y l h m =>
    split at ho
    · obtain ⟨_, ho⟩ := cond_none_some ho
      split at ho
      · obtain ⟨z, _, rfl⟩ := map_some ho; simp [xclass] at hc
      · obtain ⟨z, _, rfl⟩ := map_some ho; simp [xclass] at hc
      · cases ho
    · cases ho
  case select cs bl =>
    obtain ⟨_, ho⟩ := cond_none_some ho
    split at ho
    · split at ho
      · split at ho
        · split at ho
          · split at ho
            · obtain ⟨z, _, rfl⟩ := map_some ho; simp [xclass] at hc
            · cases ho
          · cases ho
        · obtain ⟨z, _, rfl⟩ := map_some ho; simp [xclass] at hc
      · cases ho
    · cases ho
  case call c =>
    split at ho
    · split at ho
      · split at ho
        · cases ho; simp [xclass] at hc
        · obtain ⟨z, _, rfl⟩ := map_some ho; simp [xclass] at hc
      · obtain ⟨z, _, rfl⟩ := map_some ho; simp [xclass] at hc
      · split at ho
        · split at ho
          · obtain ⟨_, h⟩ := cond_some_none ho; cases h; simp [xclass] at hc
          · cases ho; exact absurd (show (0 : Nat) = 1 from hc) (by decide)
          · cases ho; exact absurd (show (3 : Nat) = 1 from hc) (by decide)
          · cases ho; exact absurd (show (3 : Nat) = 1 from hc) (by decide)
          · cases ho
        · split at ho
          · split at ho
            · obtain ⟨_, h⟩ := cond_none_some ho; cases h; simp [xclass] at hc
            · cases ho
          · cases ho
        · cases ho; simp [xclass] at hc
        · cases ho; simp [xclass] at hc
        · cases ho
    · cases ho
  all_goals first
    | (cases ho; done)
    | (obtain ⟨z, _, rfl⟩ := map_some ho; simp [xclass] at hc; done)
    | ((repeat' split at ho) <;> first
        | (cases ho; done)
        | (cases ho; simp [xclass] at hc; done)
        | (obtain ⟨z, _, rfl⟩ := map_some ho; simp [xclass] at hc; done)
        | (obtain ⟨_, h⟩ := cond_some_none ho; cases h; simp [xclass] at hc; done)
        | (obtain ⟨_, h⟩ := cond_none_some ho; cases h; simp [xclass] at hc; done)
        | (obtain ⟨_, h⟩ := cond_some_none ho; obtain ⟨z, _, rfl⟩ := map_some h; simp [xclass] at hc; done))

/-- Listed is, with each, who is ahead of it. -/
def ClosedL (ops : Array Oper) (listed : Array Bool) : Prop := ∀ i o, ops[i]? = some o → listed.getD i false = true → ∀ e ∈ o.after.toList, Region.binds .any e = true → listed.getD e.on false = true
theorem ahead_listed {ops : Array Oper} (hlt : ∀ i o, ops[i]? = some o → ∀ e ∈ o.after.toList, Region.binds .any e = true → e.on < i) {listed : Array Bool} (hc : ClosedL ops listed) :
    ∀ (n i : Nat) o, i < n → ops[i]? = some o → (∀ e ∈ o.after.toList, Region.binds .any e = true → listed.getD e.on false = true) → ∀ j, ((aheadOf ops.toList).getD i 0).testBit j = true → listed.getD j false = true := by
  intro n
  induction n with
  | zero => intro i o hi; omega
  | succ n ih =>
    intro i o hi ho hr j hj
    obtain ⟨e, h1, h2, h3⟩ := ahead_spec (ops := ops.toList) (by simpa using ho) hj
    rcases h3 with rfl | h3
    · exact hr e h1 h2
    · have hei := hlt i o ho e h1 h2
      have hsz : i < ops.size := (Array.getElem?_eq_some_iff.1 ho).1
      have hoe : ops[e.on]? = some ops[e.on] := Array.getElem?_eq_getElem (by omega)
      exact ih e.on _ (by omega) hoe (hc e.on _ hoe (hr e h1 h2)) j h3

/-! ### The checks -/
theorem allPairs_spec {α : Type} {f : α → α → Bool} : ∀ {l : List α}, allPairs f l = true → l.Pairwise fun a b => f a b = true
  | [], _ => .nil
  | a :: l, h => by
    have h' : (l.all (f a) && allPairs f l) = true := h
    rw [Bool.and_eq_true, List.all_eq_true] at h'
    exact .cons h'.1 (allPairs_spec h'.2)
structure PairD (p q : DOp) : Prop where
  ne : p.1 ≠ q.1
  order : p.2.1.testBit q.1 = false
  later : ∀ n m, Later (p, n) (q, m)
  free : q.2.1.testBit p.1 = false → ∀ n m, Unord (p, n) (q, m)
theorem not_pMem {p : List Bool} {l : List (List Bool)} (h : (!pMem p l) = true) : p ∉ l := by
  intro hm
  rw [pMem_iff.2 hm] at h
  cases h
theorem pairD {p q : DOp} (h : (!Nat.beq p.1 q.1 && !p.2.1.testBit q.1 && pairOk p.2.2.1 q.2.2.1 (q.2.1.testBit p.1)) = true) : PairD p q := by
  simp only [Bool.and_eq_true, Bool.not_eq_true'] at h
  obtain ⟨⟨h1, h2⟩, h3⟩ := h
  unfold pairOk at h3
  simp only [Bool.and_eq_true] at h3
  obtain ⟨⟨h4, h5⟩, h6⟩ := h3
  have hdst : ∀ r, p.2.2.1.dst = some r → q.2.2.1.dst ≠ some r := by
    intro r hr hq
    rw [hr] at h5
    simp only [Bool.and_eq_true] at h5
    rw [hq] at h5
    have := h5.2
    simp only [Bool.not_eq_true'] at this
    rw [pEq_iff.2 rfl] at this
    cases this
  refine ⟨beq_f h1, h2, fun n m => ⟨hdst, fun c1 r hr => ?_⟩, fun hf n m => ?_⟩
  · have hr : q.2.2.1.dst = some r := hr
    have c1 : xclass p.2.2.1.xop = 1 := c1
    rw [hr] at h6
    rw [c1] at h6
    simp only [Nat.beq_refl, Bool.not_true, Bool.and_false, Bool.false_or] at h6
    exact not_pMem h6
  · rw [hf] at h4 h5 h6
    refine ⟨hf, ?_, ?_, fun r hr => ?_, hdst, fun r hr => ?_⟩
    · rintro (⟨b1, b2⟩ | ⟨b1, b2⟩)
      · have b1 : xclass p.2.2.1.xop = 3 := b1
        have b2 : 2 ≤ xclass q.2.2.1.xop := b2
        rw [b1, ble_t (show 1 ≤ xclass q.2.2.1.xop by omega)] at h4
        simp at h4
      · have b1 : xclass q.2.2.1.xop = 3 := b1
        have b2 : 2 ≤ xclass p.2.2.1.xop := b2
        rw [b1, ble_t b2] at h4
        simp at h4
    · rintro ⟨b1, b2⟩
      have b1 : xclass p.2.2.1.xop = 3 := b1
      have b2 : xclass q.2.2.1.xop = 1 := b2
      rw [b1, b2] at h4
      simp at h4
    · have hr : p.2.2.1.dst = some r := hr
      rw [hr] at h5
      simp only [Bool.and_eq_true, Bool.false_or] at h5
      exact not_pMem h5.1
    · have hr : q.2.2.1.dst = some r := hr
      rw [hr] at h6
      simp only [Bool.false_and, Bool.false_or] at h6
      exact not_pMem h6
theorem selfD {x : XOper} (h : selfOk x = true) : ∀ p, x.dst = some p → p ∉ x.reads := by
  intro p hp
  unfold selfOk at h
  rw [hp] at h
  exact not_pMem h

/-! ### Every order -/
theorem go_cons (ops : Array Oper) (fuel t : Nat) (listed : Array Bool) :
    Region.linearise.go .any ops (fuel + 1) t listed [] = match (Region.ready .any ops listed)[t % (Region.ready .any ops listed).length]? with
      | some i => i :: Region.linearise.go .any ops fuel (t / (Region.ready .any ops listed).length) (listed.setIfInBounds i true) []
      | none => [] := by
  show (match (Region.ready .any ops listed)[t % (Region.ready .any ops listed).length]? with
      | some i => Region.linearise.go .any ops fuel (t / (Region.ready .any ops listed).length) (listed.setIfInBounds i true) [i]
      | none => [].reverse) = _
  split
  · rename_i i hi
    rw [linearise_go_acc, List.reverse_singleton, List.singleton_append]
  · rfl

variable {P : Program} {R : Nat → Prop} {asm : Asm} {nt : Nat} {rc : Cmd → Out}

/-- What an operation of a region comes from. -/
theorem compOper_inv {ops : Array Oper} {o : Oper} {x : XOper} (h : compOper P nt ops.toList o = some x) :
    compOp P nt o = some x.xop ∧ x.dst = o.dst.map pathOf ∧ ∀ {R e g W t a} {b : Bool}, Here P R e g W asm t a nt → wantX x t = some b → Region.wanted o (yielded ops a.tmps) = b := by
  unfold compOper at h
  cases hz : compOp P nt o with
  | none => rw [hz] at h; cases h
  | some z =>
    rw [hz] at h
    simp only at h
    cases hgd : o.guard with
    | none =>
      rw [hgd] at h
      have key : x.guard = none → ∀ {R e g W t a} {b : Bool}, Here P R e g W asm t a nt → wantX x t = some b → Region.wanted o (yielded ops a.tmps) = b := by
        intro hx R e g W t a b _ hb
        unfold wantX at hb
        rw [hx] at hb
        cases hb
        unfold Region.wanted
        rw [hgd]
      rcases dstK_some h with ⟨q, hq, _, rfl⟩ | ⟨hq, rfl⟩
      · exact ⟨rfl, by rw [hq]; rfl, key rfl⟩
      · exact ⟨rfl, by rw [hq]; rfl, key rfl⟩
    | some jw =>
      obtain ⟨j, w⟩ := jw
      rw [hgd] at h
      simp only at h
      cases hdst : (ops.toList[j]?).bind (·.dst) with
      | none => rw [hdst] at h; cases h
      | some gq =>
        rw [hdst] at h
        obtain ⟨hlt, h⟩ := cond_some_none h
        have hlt := blt_lt hlt
        have key : x.guard = some (pathOf gq, w) → ∀ {R e g W t a} {b : Bool}, Here P R e g W asm t a nt → wantX x t = some b → Region.wanted o (yielded ops a.tmps) = b := by
          intro hx R e g W t a b H hb
          unfold wantX at hb
          rw [hx] at hb
          exact wanted_sound H hgd hdst hlt hb
        rcases dstK_some h with ⟨q, hq, _, rfl⟩ | ⟨hq, rfl⟩
        · exact ⟨rfl, by rw [hq]; rfl, key rfl⟩
        · exact ⟨rfl, by rw [hq]; rfl, key rfl⟩
theorem hnew_inj {g : G} {o o' : AO} (h : hnew g o = hnew g o') : o = o' := by
  have h1 := hget_hnew g g.next o
  have h2 := hget_hnew g g.next o'
  rw [if_pos rfl] at h1 h2
  rw [← h1, ← h2, h]
/-- The block is laid at a number that nothing has. -/
def Env.at (e : Env) (b : Nat) (p : Nat × Nat) : Env := { e with blk := fun x => if x = b then some p else e.blk x, nx := max e.nx (b + 1) }
theorem Env.at_lw {e : Env} {b : Nat} {p : Nat × Nat} (h : e.blk b = none) : e.Lw (e.at b p) :=
  ⟨fun x q hx => by
    show (if x = b then some p else e.blk x) = some q
    rw [if_neg (fun he => by subst he; rw [h] at hx; cases hx)]
    exact hx, rfl, rfl⟩
theorem Sim.lay {e : Env} {g : G} {W : World} (h : Sim P R e g W) {b : Nat} (hb : e.blk b = none) {o : AO} {n : Nat} {ob : Obj} {W' : World} (hp : NewAt W W' ob)
    (hor : OR P (e.at b (W.heap.size, n)) o n ob) : Sim P R (e.at b (W.heap.size, n)) (layAt g b o) W' ∧ Keep R W W' := by
  have hle : e.Lw (e.at b (W.heap.size, n)) := Env.at_lw hb
  have old : ∀ x c m, x ≠ b → (e.at b (W.heap.size, n)).blk x = some (c, m) → e.blk x = some (c, m) := fun x c m hx hy => by
    have hx' : (if x = b then some (W.heap.size, n) else e.blk x) = some (c, m) := hy
    rwa [if_neg hx] at hx'
  have here : (e.at b (W.heap.size, n)).blk b = some (W.heap.size, n) := if_pos rfl
  have lt : ∀ b c m, hget g b ≠ .none → e.blk b = some (c, m) → c < W.heap.size := fun b c m hb hx => by
    obtain ⟨c', n', ob', g1, g2, g3, _⟩ := h.obj b hb
    rw [hx] at g1; cases g1
    exact (Array.getElem?_eq_some_iff.1 g3).1
  refine ⟨⟨fun x hx => ?_, fun b1 b2 c n1 n2 hd hx hy h1 h2 => ?_, fun x hx => ?_, fun c hc => h.up c (by rw [hp.size] at hc; omega), ?_⟩, hp.keep⟩
  · rw [hget_layAt] at hx ⊢
    by_cases hbb : b = x
    · subst hbb
      rw [if_pos rfl] at hx ⊢
      exact ⟨W.heap.size, n, ob, here, h.up _ (Nat.le_refl _), hp.here, hor⟩
    · rw [if_neg hbb] at hx ⊢
      obtain ⟨c, m, ob', g1, g2, g3, g4⟩ := h.obj x hx
      exact ⟨c, m, ob', hle.blk _ _ g1, g2, by rw [hp.else_ c (Array.getElem?_eq_some_iff.1 g3).1]; exact g3, g4.le hle⟩
  · rw [hget_layAt] at hx hy ⊢
    by_cases e1 : b = b1
    · subst e1
      rw [here] at h1
      cases h1
      rw [if_neg hd] at hy
      have k2 := old b2 _ _ (fun q => hd q.symm) h2
      have := lt b2 _ _ hy k2
      omega
    · rw [if_neg e1] at hx
      have k1 := old b1 _ _ (fun q => e1 q.symm) h1
      by_cases e2 : b = b2
      · subst e2
        rw [here] at h2
        cases h2
        have := lt b1 _ _ hx k1
        omega
      · rw [if_neg e2] at hy
        rw [if_neg e1, hget_layAt, if_neg e2]
        exact h.apart b1 b2 c n1 n2 hd hx hy k1 (old b2 _ _ (fun q => e2 q.symm) h2)
  · have hx' : max g.next (b + 1) ≤ x := hx
    show (if x = b then some (W.heap.size, n) else e.blk x) = none
    rw [if_neg (by omega)]
    exact h.fresh x (by omega)
  · show max e.nx (b + 1) = max g.next (b + 1)
    rw [h.nxt]

/-- Below N nothing has turned. -/
structure Env.Far (N : Nat) (e e' : Env) : Prop where
  lw : e.Lw e'
  nx : e.nx ≤ e'.nx
  old : ∀ b, b < N → e'.blk b = e.blk b
theorem Env.Far.refl (N : Nat) (e : Env) : Env.Far N e e := ⟨Env.Lw.refl e, Nat.le_refl _, fun _ _ => rfl⟩
theorem Env.Far.trans {N : Nat} {a b c : Env} (h : Env.Far N a b) (k : Env.Far N b c) : Env.Far N a c := ⟨h.lw.trans k.lw, Nat.le_trans h.nx k.nx, fun x hx => (k.old x hx).trans (h.old x hx)⟩
theorem Env.Le.far {N : Nat} {a b : Env} (h : a.Le b) (hn : N ≤ a.nx) : Env.Far N a b := ⟨h.toLw, h.nx, fun x hx => h.old x (Nat.lt_of_lt_of_le hx hn)⟩

/-- One operation, its number given. -/
theorem evb_sound (S : Snd P asm rc) {ops : Array Oper} {i : Nat} {p : DB} (hp : OpAt P nt ops i p.x) {t d g v d1 g1} (h : EvB asm rc p t d g v d1 g1) {N : Nat} {l : List DB}
    {e : Env} {W : World} {a : Act} (hN : N ≤ e.nx) (hl : ∀ q ∈ l, q.cls = 2 → N ≤ q.2 ∧ e.blk q.2 = none) (hpn : p.cls = 2 → N ≤ p.2 ∧ e.blk p.2 = none) (hd : ∀ q ∈ l, p.cls = 2 → q.cls = 2 → p.2 ≠ q.2)
    (h3 : p.cls = 3 → ∀ q ∈ l, q.cls = 2 → g1.next ≤ q.2) (H : Here P R e g W asm t a nt) (hD : DRs e d a.defers) :
    (d1 = [] → d = []) ∧ ∃ e' a' W', Env.Far N e e' ∧ (∀ q ∈ l, q.cls = 2 → N ≤ q.2 ∧ e'.blk q.2 = none) ∧ Here P R e' g1 W' asm (putO t p.x.dst v) a' nt ∧ Keep R W W' ∧ DRs e' d1 a'.defers ∧
        ∀ (c : Ctx) rest k cs, (c.rd = none ∨ d1 = []) → Steps P (lone (c.fr a (.inRegion ops (i :: rest) :: k)) cs W) (lone (c.fr a' (.inRegion ops rest :: k)) cs W') := by
  -- by the evaluator's own step
  have plain : EvX asm rc p.x t d g v d1 g1 → (g1.next = g.next ∨ ∀ q ∈ l, q.cls = 2 → g1.next ≤ q.2) → (d1 = [] → d = []) ∧ ∃ e' a' W', Env.Far N e e' ∧ (∀ q ∈ l, q.cls = 2 → N ≤ q.2 ∧ e'.blk q.2 = none) ∧ Here P R e' g1 W' asm (putO t p.x.dst v) a' nt ∧ Keep R W W' ∧ DRs e' d1 a'.defers ∧
        ∀ (c : Ctx) rest k cs, (c.rd = none ∨ d1 = []) → Steps P (lone (c.fr a (.inRegion ops (i :: rest) :: k)) cs W) (lone (c.fr a' (.inRegion ops rest :: k)) cs W') := by
    intro hx hg
    obtain ⟨t1, d2, g2, s1, s2⟩ := stepOp_sound S (nt := nt) (ops := ops) (i := i) hp (stepOp_of hx)
    cases s1
    obtain ⟨m1, e1, a1, W1, q1, q2, q3, q4, q5⟩ := s2 H hD
    refine ⟨m1, e1, a1, W1, q1.far hN, fun q hq q2' => ⟨(hl q hq q2').1, ?_⟩, q2, q3, q4, q5⟩
    rcases hg with hg | hg
    · rcases Nat.lt_or_ge q.2 e.nx with hlt | hge
      · rw [q1.old _ hlt]; exact (hl q hq q2').2
      · exact q2.sim.fresh _ (by rw [hg, ← H.sim.nxt]; exact hge)
    · exact q2.sim.fresh _ (hg q hq q2')
  have hc := xclass_le p.x.xop
  rcases h with ⟨c2, h⟩ | ⟨c2, rfl, h⟩
  · refine plain h ?_
    have hc' : p.cls ≤ 3 := hc
    by_cases c0 : p.cls = 0
    · exact .inl (by rw [(ev0 c0 h).2.1])
    by_cases c1 : p.cls = 1
    · exact .inl (by rw [(ev1 c1 h).2.1])
    exact .inr fun q hq q2 => h3 (by omega) q hq q2
  · rcases h with ⟨hw, o, ⟨mk, hf, rfl, hno⟩, rfl⟩ | ⟨hw, rfl, rfl⟩
    · -- it lays a block
      obtain ⟨op_, hop, hcx⟩ := hp
      obtain ⟨k1, k2, k3⟩ := compOper_inv (asm := asm) hcx
      have hal := alloc_ok H k1 c2
      rcases hal with hal | ⟨mk', o', ob, n, y, hf', hres, hno', hv⟩
      · obtain ⟨n, hn⟩ := hal g
        have hn : evalOp asm p.x.xop t g = .fail n := hn
        rw [hf g] at hn; cases hn
      · have hfb := hf { heap := .tip, next := p.2 }
        have hfb' : evalOp asm p.x.xop t { heap := .tip, next := p.2 } = _ := hf' { heap := .tip, next := p.2 }
        rw [hfb] at hfb'
        injection hfb' with hmk hho
        have ho := hnew_inj hho
        subst ho
        simp only at hmk
        obtain ⟨hpN, hpb⟩ := hpn c2
        have hle : e.Lw (e.at p.2 (W.heap.size, n)) := Env.at_lw hpb
        obtain ⟨hor, hvr⟩ := hv _ hle
        obtain ⟨hsim, hk⟩ := H.sim.lay hpb (NewAt.push W ob) hor
        have hvr' := hvr p.2 (if_pos rfl)
        rw [← hmk] at hvr'
        refine ⟨id, e.at p.2 (W.heap.size, n), after a a.defers op_.dst y, _, ⟨hle, Nat.le_max_left _ _, fun b hb => if_neg (by omega)⟩, fun q hq q2 => ⟨(hl q hq q2).1, ?_⟩,
          ⟨hsim, by rw [k2]; exact TR.after (H.tr.le hle) hvr' a.defers op_.dst, by rw [after_size]; exact H.nt, AsmOK.le H.asm hle⟩, hk, by rw [after_defers]; exact hD.le hle, fun c rest k cs hcc => .one (t_value hop (k3 H hw) ?_ hres)⟩
        · show (if q.2 = p.2 then some (W.heap.size, n) else e.blk q.2) = none
          rw [if_neg (fun he => hd q hq c2 q2 he.symm)]
          exact (hl q hq q2).2
        · refine .inr fun z hz => ?_
          have ho' := k1
          simp only [compOp, hz] at ho'
          split at ho'
          · rename_i f as _ _
            have hx : p.x.xop = .defer f as := by
              have := Option.some.inj ho'
              exact this.symm
            have c2' : xclass p.x.xop = 2 := c2
            rw [hx] at c2'
            simp [xclass] at c2'
          · cases ho'
    · exact plain (.inr ⟨hw, rfl, rfl, rfl⟩) (.inl rfl)

theorem draw_exec (S : Snd P asm rc) {ops : Array Oper} (hlt : ∀ i o, ops[i]? = some o → ∀ e ∈ o.after.toList, Region.binds .any e = true → e.on < i) {t' : Tr AV} {d' : List ADef} {g' : G} {N : Nat} :
    ∀ (fuel tape : Nat) (listed : Array Bool) (l : List DB) {e : Env} {t : Tr AV} {d : List ADef} {g : G} {W : World} {a : Act}, l.length = fuel → ClosedL ops listed → listed.size = ops.size →
      (∀ p ∈ l, IsD P nt ops.toList p.1) → (∀ p ∈ l, selfOk p.x = true) → (l.Pairwise fun a b => PairD a.1 b.1) → l.Pairwise NumD → (∀ i, i < ops.size → (listed.getD i false = false ↔ ∃ p ∈ l, p.1.1 = i)) → Run asm rc [] l t d g t' d' g' →
      N ≤ e.nx → (∀ q ∈ l, q.cls = 2 → N ≤ q.2 ∧ e.blk q.2 = none) →
      Here P R e g W asm t a nt → DRs e d a.defers → ∃ e' a' W', Env.Far N e e' ∧ Here P R e' g' W' asm t' a' nt ∧ Keep R W W' ∧ DRs e' d' a'.defers ∧
        ∀ (c : Ctx) k cs, (c.rd = none ∨ d' = []) → Steps P (lone (c.fr a (.inRegion ops (Region.linearise.go .any ops fuel tape listed []) :: k)) cs W) (lone (c.fr a' k) cs W') := by
  intro fuel
  induction fuel with
  | zero =>
    intro tape listed l e t d g W a hf _ _ _ _ _ _ _ hrun _ _ H hd
    cases l with
    | cons p l => simp at hf
    | nil =>
      cases hrun
      exact ⟨e, a, W, Env.Far.refl N e, H, Keep.refl R W, hd, fun c k cs _ => .one t_regionEnd⟩
  | succ fuel ih =>
    intro tape listed l e t d g W a hf hcl hsz hl hself hp hnum hidx hrun hN hnone H hd
    cases l with
    | nil => simp at hf
    | cons p0 l0 =>
      -- somebody is ready
      have hready : p0.1.1 ∈ Region.ready .any ops listed := by
        obtain ⟨o, ho, hx, hB⟩ := hl p0 List.mem_cons_self
        have ho' : ops[p0.1.1]? = some o := by simpa using ho
        have hlt0 : p0.1.1 < ops.size := (Array.getElem?_eq_some_iff.1 ho').1
        have hun := (hidx p0.1.1 hlt0).2 ⟨p0, List.mem_cons_self, rfl⟩
        refine mem_ready.2 ⟨?_, o, ho', fun ed hed hb => ?_⟩
        · have hl0 : p0.1.1 < listed.size := by omega
          simp [hl0] at hun ⊢
          exact hun
        · cases hq : listed.getD ed.on false
          · exfalso
            have hei := hlt p0.1.1 o ho' ed (by simpa using hed) hb
            obtain ⟨q, hq1, hq2⟩ := (hidx ed.on (by omega)).1 hq
            rcases List.mem_cons.1 hq1 with rfl | hq1
            · omega
            · have := (List.pairwise_cons.1 hp).1 q hq1
              have hbit : p0.1.2.1.testBit q.1.1 = true := by
                rw [hB, hq2]
                exact ahead_edge ho (by simpa using hed) hb
              rw [this.order] at hbit
              cases hbit
          · rfl
      rw [go_cons]
      cases hi : (Region.ready .any ops listed)[tape % (Region.ready .any ops listed).length]? with
      | none =>
        exfalso
        have hpos : 0 < (Region.ready .any ops listed).length := List.length_pos_of_mem hready
        have := Nat.mod_lt tape hpos
        rw [List.getElem?_eq_getElem this] at hi
        cases hi
      | some i =>
        simp only
        have hir := List.mem_of_getElem? hi
        obtain ⟨hun, o, ho, hall⟩ := mem_ready.1 hir
        have hlti : i < ops.size := (Array.getElem?_eq_some_iff.1 ho).1
        have hlli : i < listed.size := by omega
        have hunf : listed.getD i false = false := by
          simp [hlli] at hun ⊢; exact hun
        obtain ⟨p, hpm, hpi⟩ := (hidx i hlti).1 hunf
        obtain ⟨A, B, hAB⟩ := List.append_of_mem hpm
        rw [hAB] at hp hnum hrun hl hself hidx hf hnone
        have hpw := List.pairwise_append.1 hp
        have hpB := List.pairwise_cons.1 hpw.2.1
        have hnw := List.pairwise_append.1 hnum
        have hnB := List.pairwise_cons.1 hnw.2.1
        -- nobody of A is ahead of p
        have hanc : ∀ j, ((aheadOf ops.toList).getD i 0).testBit j = true → listed.getD j false = true :=
          ahead_listed hlt hcl (i + 1) i o (by omega) ho (fun ed hed hb => hall ed (by simpa using hed) hb)
        have hpIs := hl p (by simp)
        have hA : ∀ x ∈ A, Unord x p := by
          intro x hx
          refine (hpw.2.2 x hx p List.mem_cons_self).free ?_ x.2 p.2
          cases hb : p.1.2.1.testBit x.1.1
          · rfl
          · exfalso
            obtain ⟨_, _, _, hB⟩ := hpIs
            rw [hB, hpi] at hb
            have h1 := hanc x.1.1 hb
            obtain ⟨ox, hox, _⟩ := hl x (by simp [hx])
            have hxl : x.1.1 < ops.size := by
              have := (List.getElem?_eq_some_iff.1 hox).1
              simpa using this
            have h2 := (hidx x.1.1 hxl).2 ⟨x, by simp [hx], rfl⟩
            rw [h1] at h2; cases h2
        have free : ∀ b, e.blk b = none → hget g b = .none := by
          intro b hb
          rcases Classical.em (hget g b = .none) with h | h
          · exact h
          · obtain ⟨c, n, ob, h1, _⟩ := H.sim.obj b h
            rw [hb] at h1; cases h1
        have hpn := hnone p (by simp)
        obtain ⟨op_, hop_, hxp, hBp⟩ := hpIs
        have hop' : ops[i]? = some op_ := by rw [← hpi]; simpa using hop_
        have hL : p.cls = 1 → ∀ b, ptrOf p.x.xop t = some b → ∃ q, e.blk b = some q := by
          intro c1 b hb
          have hb' : ∃ y z, compO nt y = some z ∧ ((∃ off, opd t z = .ptr b off) ∨ ∃ i s c, opd t z = .ptrS b i s c) := by
            have hcx : compOp P nt op_ = some p.x.xop := (compOper_inv (asm := asm) hxp).1
            rcases comp_ptr hcx c1 with ⟨y, z, n, h1, h2⟩ | ⟨y, z, h1, h2⟩
            · rw [h2] at hb
              unfold ptrOf at hb
              simp only at hb
              split at hb
              · rename_i b' off hz; cases hb; exact ⟨y, z, h1, .inl ⟨off, hz⟩⟩
              · rename_i b' i' s' c' hz; cases hb; exact ⟨y, z, h1, .inr ⟨_, _, _, hz⟩⟩
              · cases hb
            · rw [h2] at hb
              unfold ptrOf at hb
              simp only at hb
              split at hb
              · rename_i b' off hz; cases hb; exact ⟨y, z, h1, .inl ⟨off, hz⟩⟩
              · cases hb
          obtain ⟨y, z, h1, h2⟩ := hb'
          have hv := H.opd h1
          rcases h2 with ⟨off, h2⟩ | ⟨i', s', c', h2⟩
          · rw [h2] at hv
            obtain ⟨cc, m, hbl, _⟩ := hv
            exact ⟨_, hbl⟩
          · rw [h2] at hv
            obtain ⟨cc, m, hbl, _⟩ := hv
            exact ⟨_, hbl⟩
        obtain ⟨v, d1, g1, f1, f2, f3, _⟩ := front A (i := p) (seen := []) (B := B) hA (fun q hq => by cases hq) (fun x hx => selfD (hself x (by simp [hx]))) (fun q hq => by cases hq)
          (hpw.1.imp fun h => h.later _ _) (fun x hx => hnw.2.2 x hx p List.mem_cons_self) (fun c2 => free _ (hpn c2).2)
          (fun c1 b hb x hx x2 he => by
            obtain ⟨q, hq⟩ := hL c1 b hb
            rw [← he, (hnone x (by simp [hx]) x2).2] at hq
            cases hq) hrun
        have sub : ∀ q ∈ A ++ B, q ∈ A ++ p :: B := fun q hq => by
          rcases List.mem_append.1 hq with hq | hq
          · exact List.mem_append_left _ hq
          · exact List.mem_append_right _ (List.mem_cons_of_mem _ hq)
        obtain ⟨m1, e1, a1, W1, q1, q1', q2, q3, q4, q5⟩ := evb_sound S (i := i) ⟨op_, hop', hxp⟩ f1 (l := A ++ B) hN (fun q hq => hnone q (sub q hq)) hpn
          (fun q hq c2 q2 => by
            rcases List.mem_append.1 hq with hq | hq
            · exact fun he => hnw.2.2 q hq p List.mem_cons_self q2 c2 he.symm
            · exact hnB.1 q hq c2 q2)
          (fun c3 q hq q2 => by
            rcases List.mem_append.1 hq with hq | hq
            · exact absurd (.inr ⟨c3, by omega⟩) (hA q hq).big
            · exact f3 c3 q hq q2) H hd
        -- the rest
        have hidx' : ∀ j, j < ops.size → ((listed.setIfInBounds i true).getD j false = false ↔ ∃ q ∈ A ++ B, q.1.1 = j) := by
          intro j hj
          by_cases hji : i = j
          · subst hji
            simp only [hlli, Array.getD_eq_getD_getElem?, Array.getElem?_setIfInBounds_self_of_lt hlli, Option.getD_some]
            constructor
            · intro h; cases h
            · rintro ⟨q, hq, hqi⟩
              exfalso
              rcases List.mem_append.1 hq with hq | hq
              · exact (hpw.2.2 q hq p List.mem_cons_self).ne (by rw [hqi, hpi])
              · exact (hpB.1 q hq).ne (by rw [hqi, hpi])
          · rw [getD_set_ne false hji, hidx j hj]
            constructor
            · rintro ⟨q, hq, rfl⟩
              refine ⟨q, ?_, rfl⟩
              rcases List.mem_append.1 hq with hq | hq
              · exact List.mem_append_left _ hq
              · rcases List.mem_cons.1 hq with rfl | hq
                · exact absurd hpi.symm hji
                · exact List.mem_append_right _ hq
            · rintro ⟨q, hq, rfl⟩
              refine ⟨q, ?_, rfl⟩
              rcases List.mem_append.1 hq with hq | hq
              · exact List.mem_append_left _ hq
              · exact List.mem_append_right _ (List.mem_cons_of_mem _ hq)
        have hcl' : ClosedL ops (listed.setIfInBounds i true) := by
          intro j oj hoj hj ed hed hb
          by_cases hji : i = j
          · subst hji
            rw [ho] at hoj; cases hoj
            exact getD_set_true (hall ed (by simpa using hed) hb)
          · rw [getD_set_ne false hji] at hj
            exact getD_set_true (hcl j oj hoj hj ed hed hb)
        obtain ⟨e2, a2, W2, r1, r2, r3, r4, r5⟩ := ih (tape / (Region.ready .any ops listed).length) (listed.setIfInBounds i true) (A ++ B) (by simp at hf ⊢; omega) hcl' (by simpa using hsz)
          (fun q hq => hl q (sub q hq)) (fun q hq => hself q (sub q hq)) (List.pairwise_append.2 ⟨hpw.1, hpB.2, fun x hx y hy => hpw.2.2 x hx y (List.mem_cons_of_mem _ hy)⟩)
          (List.pairwise_append.2 ⟨hnw.1, hnB.2, fun x hx y hy => hnw.2.2 x hx y (List.mem_cons_of_mem _ hy)⟩) hidx' f2 (Nat.le_trans hN q1.nx) q1' q2 q4
        refine ⟨e2, a2, W2, q1.trans r1, r2, q3.trans r3, r4, fun c k cs hc => (q5 c _ k cs ?_).trans (r5 c k cs hc)⟩
        rcases hc with hc | hc
        · exact .inl hc
        · exact .inr (f2.mono hc)

theorem getD_rep (n i : Nat) : (Array.replicate n false).getD i false = false := by
  simp only [Array.getD_eq_getD_getElem?, Array.getElem?_replicate]
  split <;> rfl
/-- Every order that the machine may take comes to what the evaluator reckons. -/
theorem drawOK (hm : P.follows .mixedOrders = true) (rc : Cmd → Out) (S : Snd P asm rc) : DrawOK P asm rc := by
  intro nt ops xs t d g ex t' d' g' hc h
  unfold compD at hc
  split at hc
  · rename_i l hl
    obtain ⟨hok, hx⟩ := cond_some_none hc
    unfold drawOk at hok
    simp only [Bool.and_eq_true] at hok
    obtain ⟨⟨⟨⟨k1, k2⟩, k3⟩, k4⟩, k5⟩ := hok
    have hIs := dopsOf_is hl
    obtain ⟨rfl, lb, hlb, hrun, hnum, hbig⟩ := run_of_fold l (seen := []) hIs (fun p hp => by cases hp) k5 hx h
    refine ⟨rfl, fun {R e W a} H hd fn id => ?_⟩
    have hlen : l.length = ops.size := by have := beq_t k2; simpa using this
    have hlt : ∀ i o, ops[i]? = some o → ∀ ed ∈ o.after.toList, Region.binds .any ed = true → ed.on < i := by
      intro i o ho ed hed hb
      rw [List.all_eq_true] at k1
      have hi : i < ops.size := (Array.getElem?_eq_some_iff.1 ho).1
      have h1 := k1 (o, i) (by
        rw [List.mem_zipIdx_iff_getElem?]
        simpa using ho)
      rw [List.all_eq_true] at h1
      have h2 := h1 ed hed
      rw [hb] at h2
      exact blt_lt (by simpa using h2)
    have k3' : ∀ p ∈ l, p.1 < ops.size ∧ selfOk p.2.2.1 = true := by
      intro p hp
      rw [List.all_eq_true] at k3
      have := k3 p hp
      simp only [Bool.and_eq_true] at this
      exact ⟨by have := blt_lt this.1; simpa using this, this.2⟩
    have hpw : l.Pairwise PairD := (allPairs_spec k4).imp fun h => pairD h
    have hidx : ∀ i, i < ops.size → ((Array.replicate ops.size false).getD i false = false ↔ ∃ p ∈ l, p.1 = i) := by
      intro i hi
      refine ⟨fun _ => ?_, fun _ => getD_rep _ _⟩
      have hnd : (l.map (·.1)).Nodup := by
        rw [List.nodup_iff_pairwise_ne, List.pairwise_map]
        exact hpw.imp fun h => h.ne
      have hsub : (l.map (·.1)) ⊆ List.range ops.size := by
        intro j hj
        obtain ⟨p, hp, rfl⟩ := List.mem_map.1 hj
        exact List.mem_range.2 (k3' p hp).1
      have hin : i ∈ l.map (·.1) := by
        rcases Classical.em (i ∈ l.map (·.1)) with h | h
        · exact h
        · exfalso
          have h1 : (i :: l.map (·.1)).Nodup := List.nodup_cons.2 ⟨h, hnd⟩
          have h2 : (i :: l.map (·.1)) ⊆ List.range ops.size := by
            intro j hj
            rcases List.mem_cons.1 hj with rfl | hj
            · exact List.mem_range.2 hi
            · exact hsub hj
          have h3 := List.Nodup.length_le_of_subset h1 h2
          simp at h3
          omega
      obtain ⟨p, hp, hpi⟩ := List.mem_map.1 hin
      exact ⟨p, hp, hpi⟩
    have H' : Here P R e g W.drew asm t a nt := ⟨H.sim.drew rfl, H.tr, H.nt, H.asm⟩
    have hmem : ∀ q ∈ lb, q.1 ∈ l := fun q hq => by rw [← hlb]; exact List.mem_map.2 ⟨q, hq, rfl⟩
    have hmem' : ∀ p ∈ l, ∃ q ∈ lb, q.1 = p := fun p hp => by rw [← hlb] at hp; exact List.mem_map.1 hp
    obtain ⟨e', a', W', q1, q2, q3, q4, q5⟩ := draw_exec S hlt (N := g.next) ops.size (W.tape W.drawn (.order fn id)) (Array.replicate ops.size false) lb (by rw [← hlen, ← hlb, List.length_map])
      (fun i o ho hi => by rw [getD_rep] at hi; cases hi) (by simp) (fun p hp => hIs _ (hmem p hp)) (fun p hp => (k3' _ (hmem p hp)).2) (by rw [← hlb, List.pairwise_map] at hpw; exact hpw) hnum
      (fun i hi => by
        rw [hidx i hi]
        constructor
        · rintro ⟨p, hp, rfl⟩
          obtain ⟨q, hq, rfl⟩ := hmem' p hp
          exact ⟨q, hq, rfl⟩
        · rintro ⟨q, hq, rfl⟩
          exact ⟨q.1, hmem q hq, rfl⟩) hrun (by rw [H.sim.nxt]; exact Nat.le_refl _) (fun q hq q2 => ⟨hbig q hq q2, H.sim.fresh _ (hbig q hq q2)⟩) H' hd
    have q1 : e.Le e' := ⟨q1.lw, q1.nx, fun b hb => q1.old b (by rw [← H.sim.nxt]; exact hb)⟩
    refine ⟨e', a', W', q1, q2, Keep.trans (B := W.drew) ⟨Nat.le_refl _, rfl, rfl, rfl, fun _ _ _ => rfl⟩ q3, q4, fun c k cs hfn hcr => .head ?_ (q5 c k cs hcr)⟩
    rw [t_draw, hfn]
    simp only [Region.schedule, hm, Bool.true_or, if_true]
    rfl
  · cases hc

/-- THE EVALUATOR IS SOUND. -/
theorem sound {tab : Tr XFn} (hT : TabOK P tab) (hm : P.follows .mixedOrders = true) (n : Nat) : Snd P asm (ev tab asm n) := ev_sound hT (fun rc S => drawOK hm rc S) n
end Go.Sx
