/-
  Append.
-/
import Derived.Test.YtjbigdomdhgdgaaGreatA2
import Derived.Conc.LoneCalls
import Derived.KernelRfl
set_option linter.unusedSimpArgs false
set_option linter.unusedVariables false
set_option linter.unusedSectionVars false
namespace Go.Sx
open Go

variable {P : Program} {R : Nat → Prop} {e : Env} {g : G} {W : World} {asm : Asm} {t : Tr AV} {a : Act} {nt : Nat}

theorem Shares.symm {o o' : AO} (h : Shares o o') : Shares o' o := by
  obtain ⟨cs, tl, cs', tl', h1, h2, h3, h4, h5⟩ := h
  exact ⟨cs', tl', cs, tl, h2, h1, h4, h3, by rw [Bool.and_comm]; exact h5⟩

theorem hget_hnew' (g : G) (b b' : Nat) (o o' : AO) : hget (hnew (hset g b o) o') b' = if g.next = b' then o' else hget (hset g b o) b' := hget_hnew ..
/-- Less is said of a block. -/
theorem Sim.weaken (h : Sim P R e g W) {b : Nat} {cs : List AV} {ow tl : Bool} (hb : hget g b = .cells cs ow tl) : Sim P R e (hset g b (.cells cs false false)) W := by
  have hne : hget g b ≠ .none := by rw [hb]; exact fun h => by cases h
  have sh : ∀ o, Shares (hget g b) o → Shares (.cells cs false false) o := by
    rintro o ⟨cs1, tl1, cs2, tl2, h1, h2, h3, h4, h5⟩
    rw [hb] at h1; cases h1
    exact ⟨cs, false, cs2, tl2, rfl, h2, (fun h => by cases h), h4, rfl⟩
  refine ⟨fun b' hb' => ?_, fun b1 b2 c' n1 n2 hd hx hy h1 h2 => ?_, h.fresh, h.up, h.nxt⟩
  · rw [hget_hset] at hb' ⊢
    by_cases hbb : b = b'
    · subst hbb
      rw [if_pos rfl]
      obtain ⟨c, n, ob, h1, h2, h3, h4⟩ := h.obj b hne
      refine ⟨c, n, ob, h1, h2, h3, ?_⟩
      rw [hb] at h4
      cases ob <;> first | exact h4.elim | exact h4
    · rw [if_neg hbb] at hb' ⊢; exact h.obj b' hb'
  · rw [hget_hset] at hx hy ⊢
    by_cases e1 : b = b1
    · subst e1
      rw [if_neg hd] at hy
      rw [if_pos rfl, hget_hset, if_neg hd]
      exact sh _ (h.apart b b2 c' n1 n2 hd hne hy h1 h2)
    · rw [if_neg e1] at hx
      by_cases e2 : b = b2
      · subst e2
        rw [if_neg e1, hget_hset, if_pos rfl]
        exact (sh _ (h.apart b b1 c' n2 n1 (Ne.symm hd) hne hx h2 h1)).symm
      · rw [if_neg e2] at hy
        rw [if_neg e1, hget_hset, if_neg e2]
        exact h.apart b1 b2 c' n1 n2 hd hx hy h1 h2

/-- Behind a row's cells new ones are laid, in the room that is there. -/
theorem Sim.behind (h : Sim P R e g W) {b c m : Nat} {cs new : List AV} {ow : Bool} {xs : List Value} (hb : hget g b = .cells cs ow true) (hc : e.blk b = some (c, m))
    (hm : cs.length + new.length ≤ m) (hv : VRs e new xs) (ho : allOne new = true) :
    ∃ W', (storeCells ⟨c, cs.length, none⟩ xs).run P W = .ok () W' ∧ Sim P R (e.add g.next (c, m)) (hnew (hset g b (.cells cs false false)) (.cells (cs ++ new) false true)) W' ∧
      e.Le (e.add g.next (c, m)) ∧ Keep R W W' := by
  obtain ⟨c', arr, el, h1, h2, h3, h4, h5⟩ := h.cells hb
  rw [hc] at h1; cases h1
  have hx : new.length = xs.length := hv.length
  have hst := run_storeCells_at P c cs.length el xs 0 arr W h3 (by omega) (allOne_spec hv ho)
  simp only [Nat.add_zero] at hst
  let arr' : Array Value := (arr.toList.take cs.length ++ xs ++ arr.toList.drop (cs.length + xs.length)).toArray
  have hput : PutAt W (W.setRow c arr') c (.cells arr' el (0, 0)) :=
    ⟨setRow_heap W c arr _ el (0, 0) h3, fun c' hc' => by simp [World.setRow, Array.getElem?_modify, Ne.symm hc'], by simp [World.setRow], rfl, rfl, rfl⟩
  have hle : e.Le (e.add g.next (c, arr.size)) := Env.add_le (h.fresh _ (Nat.le_refl _)) h.nxt
  have hsz : arr'.size = arr.size := by simp [arr']; omega
  have hS := h.weaken hb
  have hbn : b ≠ g.next := fun hq => by
    subst hq
    rw [h.fresh _ (Nat.le_refl _)] at hc; cases hc
  have htake : ∀ n, n ≤ cs.length → arr'.toList.take n = arr.toList.take n := fun n hn => by
    simp only [arr']
    rw [List.append_assoc, List.take_append_of_le_length (by simp; omega), List.take_take, Nat.min_eq_left hn]
  have hmine : hget (hset g b (.cells cs false false)) b = .cells cs false false := by rw [hget_hset, if_pos rfl]
  -- whoever lies there
  have there : ∀ b' n', b' ≠ g.next → hget (hset g b (.cells cs false false)) b' ≠ .none → e.blk b' = some (c, n') →
      ∃ cs', hget (hset g b (.cells cs false false)) b' = .cells cs' false false ∧ cs'.length ≤ cs.length := by
    intro b' n' _ hne' hb'
    by_cases hbb : b = b'
    · subst hbb; exact ⟨cs, hmine, Nat.le_refl _⟩
    · rw [hget_hset, if_neg hbb] at hne' ⊢
      obtain ⟨cs1, tl1, cs2, tl2, q1, q2, q3, q4, q5⟩ := h.apart b b' c arr.size n' hbb (by rw [hb]; exact fun h => by cases h) hne' hc hb'
      rw [hb] at q1; cases q1
      have : tl2 = false := by simpa using q5
      subst this
      exact ⟨cs2, q2, q3 rfl⟩
  have newOR : OR P (e.add g.next (c, arr.size)) (.cells (cs ++ new) false true) arr.size (.cells arr' el (0, 0)) := by
    refine ⟨hsz, by simp; omega, ?_, rfl⟩
    have : arr'.toList.take (cs ++ new).length = arr.toList.take cs.length ++ xs := by
      simp only [arr', List.length_append]
      rw [hx, List.take_append_of_le_length (by simp; omega), List.take_of_length_le (by simp; omega)]
    rw [this]
    exact VRs.append (VRs.le hle _ _ h5) (VRs.le hle _ _ hv)
  have old : ∀ b' c' m', b' ≠ g.next → (e.add g.next (c, arr.size)).blk b' = some (c', m') → e.blk b' = some (c', m') := fun b' c' m' hb' hx' => by
    have hx'' : (if b' = g.next then some (c, arr.size) else e.blk b') = some (c', m') := hx'
    rwa [if_neg hb'] at hx''
  refine ⟨_, hst, ⟨fun b' hb' => ?_, fun b1 b2 c' n1 n2 hd hx hy h1 h2 => ?_, fun b' hb' => ?_, fun c' hc' => h.up c' (by rw [hput.size] at hc'; exact hc'), rfl⟩, hle, hput.keep h2⟩
  · rw [hget_hnew'] at hb' ⊢
    by_cases hbb : g.next = b'
    · subst hbb
      rw [if_pos rfl]
      exact ⟨c, arr.size, _, Env.add_here .., h2, hput.here, newOR⟩
    · rw [if_neg hbb] at hb' ⊢
      obtain ⟨c', n', ob, g1, g2, g3, g4⟩ := hS.obj b' hb'
      by_cases hcc : c' = c
      · subst hcc
        obtain ⟨cs', q1, q2⟩ := there b' n' (Ne.symm hbb) hb' g1
        rw [h3] at g3; cases g3
        refine ⟨c', n', _, hle.blk _ _ g1, g2, hput.here, ?_⟩
        rw [q1] at g4 ⊢
        obtain ⟨k1, k2, k3, k4⟩ := g4
        exact ⟨hsz.trans k1, k2, by rw [htake _ q2]; exact VRs.le hle _ _ k3, rfl⟩
      · exact ⟨c', n', ob, hle.blk _ _ g1, g2, by rw [hput.else_ c' hcc]; exact g3, g4.le hle⟩
  · have edge : ∀ b' n', b' ≠ g.next → hget (hset g b (.cells cs false false)) b' ≠ .none → e.blk b' = some (c, n') → Shares (.cells (cs ++ new) false true) (hget (hset g b (.cells cs false false)) b') := by
      intro b' n' q1 q2 q3
      obtain ⟨cs', k1, k2⟩ := there b' n' q1 q2 q3
      rw [k1]
      exact ⟨cs ++ new, true, cs', false, rfl, rfl, fun _ => by simp; omega, fun h => (by cases h), rfl⟩
    rw [hget_hnew'] at hx hy ⊢
    by_cases e1 : g.next = b1
    · subst e1
      rw [Env.add_here] at h1; cases h1
      rw [if_neg hd] at hy
      rw [if_pos rfl, hget_hnew', if_neg hd]
      exact edge b2 n2 (Ne.symm hd) hy (old b2 _ _ (Ne.symm hd) h2)
    · rw [if_neg e1] at hx
      rw [if_neg e1, hget_hnew']
      have k1 := old b1 _ _ (Ne.symm e1) h1
      by_cases e2 : g.next = b2
      · subst e2
        rw [Env.add_here] at h2; cases h2
        rw [if_pos rfl]
        exact (edge b1 n1 hd hx k1).symm
      · rw [if_neg e2] at hy
        rw [if_neg e2]
        exact hS.apart b1 b2 c' n1 n2 hd hx hy k1 (old b2 _ _ (Ne.symm e2) h2)
  · show (if b' = g.next then some (c, arr.size) else e.blk b') = none
    have hb' : g.next + 1 ≤ b' := hb'
    rw [if_neg (by omega)]
    exact h.fresh b' (by omega)

/-! ### What the model's append does -/
theorem next_le {need cap : Nat} (h : cap < need) : Builtin.nextslicecap need cap ≤ 4 * need + 4096 := by
  have step : ∀ c, c < need → c + (c + 768) / 4 ≤ 2 * need + 1000 := fun c hc => by omega
  have grow : ∀ (r c : Nat), c ≤ 2 * need + 1000 → Builtin.growBy need r c ≤ 2 * need + 1000 := by
    intro r
    induction r with
    | zero => intro c hc; exact hc
    | succ r ih =>
      intro c hc
      rw [Builtin.growBy]
      split
      · exact hc
      · rename_i hn
        exact ih _ (step c (by omega))
  unfold Builtin.nextslicecap
  split
  · omega
  · split
    · omega
    · have := grow 4 cap (by omega); omega
section
variable {P : Program} {W : World} {t0 t1 el el1 rt : TypeId} {ats : Array TypeId} {i : TypeInfo} {x : Value} {n : Nat} {new : Array Value}
  (h0 : ats[0]? = some t0) (h1 : ats[1]? = some t1) (hu : P.underlying t0 = some (.slice el)) (hu1 : P.underlying t1 = some (.slice el1)) (hi : P.info? el = some i)
include h0 h1 hu hu1 hi
theorem append_none {sLen sCap : Nat} (hl : ∀ W, (Builtin.lenOf x).run P W = .ok n W) (hn : (Builtin.firstCells i.size n x).run P W = .ok new W) (hle : sLen + n ≤ sCap) :
    (Builtin.append_ ats rt #[.slice none sLen sCap, x]).run P W = .ok (.slice none (sLen + n) sCap) W := by
  have hs : sizeT P el = some i.size := by simp [sizeT, hi]
  simp [Builtin.append_, h0, h1, run_underlying hu, run_underlying hu1, sizeT_run hs, hl, hn, hle, Result.andThen]
theorem append_some {ad : Addr} {W' : World} {sLen sCap : Nat} (hl : ∀ W, (Builtin.lenOf x).run P W = .ok n W) (hn : (Builtin.firstCells i.size n x).run P W = .ok new W) (hle : sLen + n ≤ sCap)
    (hst : (storeCells (ad.add (sLen * i.size)) new.toList).run P W = .ok () W') :
    (Builtin.append_ ats rt #[.slice (some ad) sLen sCap, x]).run P W = .ok (.slice (some ad) (sLen + n) sCap) W' := by
  have hs : sizeT P el = some i.size := by simp [sizeT, hi]
  simp [Builtin.append_, h0, h1, run_underlying hu, run_underlying hu1, sizeT_run hs, hl, hn, hle, hst, Result.andThen]
theorem append_grow {base : Option Addr} {sLen sCap : Nat} {old : Array Value} {zero : Value} (hl : ∀ W, (Builtin.lenOf x).run P W = .ok n W)
    (hn : (Builtin.firstCells i.size n x).run P W.drew = .ok new W.drew)
    (ho : (Builtin.firstCells i.size sLen (.slice base sLen sCap)).run P W.drew = .ok old W.drew)
    (hz : (zeroValue el).run P W.drew = .ok zero W.drew)
    (hgt : sCap < sLen + n) (hb : i.bytes ≠ 0) (hroom : (4 * (sLen + n) + 4096) * i.bytes ≤ 140737488355328) (hlt : sLen + n ≤ 4294967296) :
    ∃ cap, sLen + n ≤ cap ∧ (Builtin.append_ ats rt #[.slice base sLen sCap, x]).run P W = .ok (.slice (some ⟨W.heap.size, 0, none⟩) (sLen + n) cap)
      (W.drew.alloc (.cells (old ++ (new ++ Builtin.zeroCells zero.cells (cap - (sLen + n)))) el (0, 0))) := by
  have hs : sizeT P el = some i.size := by simp [sizeT, hi]
  have hq : (Question.appendCap (sLen + n) sCap el).forced = false := rfl
  have hnl := next_le hgt
  have hbig : ¬ Builtin.nextslicecap (sLen + n) sCap * i.bytes > 2 ^ 48 := by
    have := Nat.mul_le_mul_right i.bytes hnl
    omega
  have hmax : ¬ ((sLen : Int) + (n : Int) > 9223372036854775807) := by omega
  refine ⟨(Question.appendCap (sLen + n) sCap el).cut (W.tape W.drawn (.appendCap (sLen + n) sCap el)), by simp [Question.cut], ?_⟩
  simp [Builtin.append_, h0, h1, run_underlying hu, run_underlying hu1, sizeT_run hs, hl, Nat.not_le.2 hgt, info_run hi, Result.andThen, hb, hq, hn, ho, hz, hbig, newRow]
  rfl
end

section
variable {size : Nat}
theorem appSrc_run (S : Sim P R e g W) {v : AV} {x : Value} {n : Nat} {new : List AV} (hv : VR e v x) (h : appSrc g size v = some (n, new)) :
    (∀ W, (Builtin.lenOf x).run P W = .ok n W) ∧ new.length = n * size ∧ ∃ xs, (Builtin.firstCells size n x).run P W = .ok xs W ∧ VRs e new xs.toList := by
  unfold appSrc at h
  split at h
  · cases h
    have hv : x = .slice none 0 0 := hv
    subst hv
    exact ⟨fun W => rfl, by simp, #[], by simp [Builtin.firstCells], trivial⟩
  · cases h
    obtain ⟨ad, c, hv, _⟩ := hv
    subst hv
    exact ⟨fun W => rfl, by simp, #[], by simp [Builtin.firstCells, loadCells, loadCellsFrom], trivial⟩
  · rename_i b off m cap
    have hv' : ∃ c mm k, e.blk b = some (c, mm) ∧ x = .slice (some ⟨c, off, none⟩) m k := by
      cases cap with
      | known k => obtain ⟨c, mm, h1, h2, h3⟩ := hv; exact ⟨c, mm, k, h1, h2⟩
      | room k => obtain ⟨c, mm, k, h1, h2, h3⟩ := hv; exact ⟨c, mm, k, h1, h2⟩
    obtain ⟨c, mm, k, hb, hx⟩ := hv'
    subst hx
    split at h
    · rename_i cs ow tl hg
      cases hc : Nat.ble (off + m * size) (llen cs)
      · rw [hc] at h; cases h
      · rw [hc] at h; cases h
        have hl : loadAt g (some (n * size)) b off = some (.agg (cut cs off (n * size))) := by
          unfold loadAt; rw [hg]; simp only; rw [hc]; rfl
        obtain ⟨xs, r1, r2⟩ := S.loadN (P := P) hb hl
        have hle := ble_le hc
        rw [llen_eq] at hle
        refine ⟨fun W => rfl, by rw [cut_eq]; simp; omega, xs, r1, ?_⟩
        obtain ⟨ys, q1, q2⟩ := r2
        cases q1; exact q2
    · cases h
  · cases h

theorem zeroCells_size (z : Array Value) (n : Nat) : (Builtin.zeroCells z n).size = n * z.size := by simp [Builtin.zeroCells]

variable {t0 t1 el el1 rt : TypeId} {ats : Array TypeId} {i : TypeInfo} {z : List AV}

/-- A new array behind an append. -/
theorem appNew_good {g' : G} (S : Sim P R e g' W) (_hgn : True) (h0 : ats[0]? = some t0) (h1 : ats[1]? = some t1) (hu : P.underlying t0 = some (.slice el)) (hu1 : P.underlying t1 = some (.slice el1)) (hi : P.info? el = some i)
    (hz : zeroC P el = some z) (hby : i.bytes ≠ 0) (hzl : z.length = i.size) {base : Option Addr} {sLen sCap n len : Nat} {x : Value} {old new : Array Value} {cs : List AV} {own : Bool}
    (hl : ∀ W, (Builtin.lenOf x).run P W = .ok n W) (hn : (Builtin.firstCells i.size n x).run P W.drew = .ok new W.drew)
    (ho : (Builtin.firstCells i.size sLen (.slice base sLen sCap)).run P W.drew = .ok old W.drew) (hlen : sLen + n = len) (hgt : sCap < len)
    (hcs : VRs e cs (old.toList ++ new.toList)) (hcl : cs.length = len * i.size) :
    Good P R e g W ((do pure (.value (← Builtin.append_ ats rt #[.slice base sLen sCap, x])) : Sem Next).run P W) (appNew g' i.size i.bytes len cs own) := by
  unfold appNew
  cases hc : (Nat.ble ((4 * len + 4096) * i.bytes) 140737488355328 && Nat.ble len 4294967296)
  · trivial
  · simp only [Bool.and_eq_true] at hc
    have c1 := ble_le hc.1
    have c2 := ble_le hc.2
    subst hlen
    obtain ⟨zx, hz1, hz2⟩ := zeroC_run hz e W.drew
    obtain ⟨cap, k1, k2⟩ := append_grow (rt := rt) h0 h1 hu hu1 hi hl hn ho hz1 hgt hby c1 c2
    rw [cond_true]
    have hzs : zx.cells.size = i.size := by have := hz2.length; simp at this; omega
    have hoz : old.size + new.size = (sLen + n) * i.size := by have := hcs.length; simp at this; omega
    let arr : Array Value := old ++ (new ++ Builtin.zeroCells zx.cells (cap - (sLen + n)))
    have harr : arr.size = cap * i.size := by
      simp only [arr, Array.size_append, zeroCells_size, hzs]
      have : (sLen + n) * i.size + (cap - (sLen + n)) * i.size = cap * i.size := by rw [← Nat.add_mul]; congr 1; omega
      omega
    have S' : Sim P R e g' W.drew := S.drew rfl
    have hle : e.Le (e.add g'.next (W.drew.heap.size, arr.size)) := Env.add_le (S'.fresh _ (Nat.le_refl _)) S'.nxt
    have hor : OR P (e.add g'.next (W.drew.heap.size, arr.size)) (.cells cs own true) arr.size (.cells arr el (0, 0)) := by
      have hcl2 : cs.length ≤ arr.size := by rw [harr, hcl]; exact Nat.mul_le_mul_right _ k1
      refine ⟨rfl, hcl2, ?_, rfl⟩
      have : arr.toList.take cs.length = old.toList ++ new.toList := by
        simp only [arr, Array.toList_append]
        rw [← List.append_assoc, List.take_append_of_le_length (by simp; omega), List.take_of_length_le (by simp; omega)]
      rw [this]
      exact VRs.le hle _ _ hcs
    obtain ⟨s, l, kp⟩ := S'.alloc (o := .cells cs own true) (NewAt.push W.drew (.cells arr el (0, 0))) hor
    refine ⟨_, .slice (some ⟨W.heap.size, 0, none⟩) (sLen + n) cap, _, ?_, l, ?_, s, Keep.trans (B := W.drew) ⟨Nat.le_refl _, rfl, rfl, rfl, fun _ _ _ => rfl⟩ kp⟩
    · simp only [Sem.run_bind, k2, Result.andThen, Sem.run_pure]; rfl
    · exact ⟨_, _, cap, Env.add_here .., rfl, by show sLen + n < half .i64; simp [half]; omega, k1, by rw [harr]; omega⟩

/-- A block of its own goes to another number. -/
theorem Sim.move (h : Sim P R e g W) {b c n : Nat} {o o' : AO} {ob' : Obj} {W' : World} (hb : hget g b = o) (ho : Excl o) (hc : e.blk b = some (c, n))
    (hp : PutAt W W' c ob') (hor : OR P (e.add g.next (c, n)) o' n ob') : Sim P R (e.add g.next (c, n)) (hnew (hset g b .none) o') W' ∧ e.Le (e.add g.next (c, n)) ∧ Keep R W W' := by
  have hne : hget g b ≠ .none := by rw [hb]; exact ho.ne_none
  obtain ⟨c0, n0, ob, h1, hr, h3, h4⟩ := h.obj b hne
  rw [hc] at h1; cases h1
  have hle : e.Le (e.add g.next (c, n)) := Env.add_le (h.fresh _ (Nat.le_refl _)) h.nxt
  have old : ∀ b' c' m, b' ≠ g.next → (e.add g.next (c, n)).blk b' = some (c', m) → e.blk b' = some (c', m) := fun b' c' m hb' hx => by
    have hx' : (if b' = g.next then some (c, n) else e.blk b') = some (c', m) := hx
    rwa [if_neg hb'] at hx'
  have hm : ∀ b', hget (hnew (hset g b .none) o') b' = if g.next = b' then o' else if b = b' then .none else hget g b' := fun b' => by
    rw [hget_hnew', hget_hset]
  -- nobody else lies there
  have alone : ∀ b' n', b' ≠ b → hget g b' ≠ .none → e.blk b' = some (c, n') → False := fun b' n' q1 q2 q3 =>
    Excl.not_shares (hb ▸ ho) (h.apart b b' c n n' (Ne.symm q1) hne q2 hc q3)
  refine ⟨⟨fun b' hb' => ?_, fun b1 b2 c' n1 n2 hd hx hy h1 h2 => ?_, fun b' hb' => ?_, fun c' hc' => h.up c' (by rw [hp.size] at hc'; exact hc'), rfl⟩, hle, hp.keep hr⟩
  · rw [hm] at hb' ⊢
    by_cases hbb : g.next = b'
    · subst hbb
      rw [if_pos rfl]
      exact ⟨c, n, ob', Env.add_here .., hr, hp.here, hor⟩
    · rw [if_neg hbb] at hb' ⊢
      by_cases hb2 : b = b'
      · rw [if_pos hb2] at hb'; exact absurd rfl hb'
      · rw [if_neg hb2] at hb' ⊢
        obtain ⟨c', n', ob2, g1, g2, g3, g4⟩ := h.obj b' hb'
        refine ⟨c', n', ob2, hle.blk _ _ g1, g2, ?_, g4.le hle⟩
        rw [hp.else_ c' (fun hcc => ?_)]
        · exact g3
        · subst hcc; exact alone b' n' (Ne.symm hb2) hb' g1
  · rw [hm] at hx hy ⊢
    by_cases e1 : g.next = b1
    · subst e1
      rw [Env.add_here] at h1; cases h1
      rw [if_neg hd] at hy
      by_cases e2 : b = b2
      · rw [if_pos e2] at hy; exact absurd rfl hy
      · rw [if_neg e2] at hy
        exact (alone b2 n2 (Ne.symm e2) hy (old b2 _ _ (Ne.symm hd) h2)).elim
    · rw [if_neg e1] at hx ⊢
      have k1 := old b1 _ _ (Ne.symm e1) h1
      by_cases e3 : b = b1
      · rw [if_pos e3] at hx; exact absurd rfl hx
      · rw [if_neg e3] at hx ⊢
        by_cases e2 : g.next = b2
        · subst e2
          rw [Env.add_here] at h2; cases h2
          exact (alone b1 n1 (Ne.symm e3) hx k1).elim
        · rw [if_neg e2] at hy
          by_cases e4 : b = b2
          · rw [if_pos e4] at hy; exact absurd rfl hy
          · rw [if_neg e4] at hy
            rw [hm, if_neg e2, if_neg e4]
            exact h.apart b1 b2 c' n1 n2 hd hx hy k1 (old b2 _ _ (Ne.symm e2) h2)
  · show (if b' = g.next then some (c, n) else e.blk b') = none
    have hb' : g.next + 1 ≤ b' := hb'
    rw [if_neg (by omega)]
    exact h.fresh b' (by omega)

/-- Rows, and what is laid behind them. -/
theorem OR.rowsOf {j : Nat} {ks : List IntKind} {m : SE} {cs new : List AV} {xs rest : List Value} {arr arr2 : Array Value} {el : TypeId} (h4 : m.ev e * ks.length + cs.length ≤ arr.size)
    (h5 : m.ev e + (cs ++ new).length < 2 ^ 60) (h6 : RowsR e j ks (m.ev e) arr) (h7 : VRs e cs ((arr.toList.drop (m.ev e * ks.length)).take cs.length)) (hx : VRs e new xs)
    (hl : arr2.toList = arr.toList.take (m.ev e * ks.length + cs.length) ++ (xs ++ rest)) : OR P e (.rows j ks m (cs ++ new)) arr2.size (.cells arr2 el (0, 0)) := by
  have hxl := hx.length
  have hsz : arr2.size = m.ev e * ks.length + cs.length + (xs.length + rest.length) := by
    have := congrArg List.length hl
    simp only [Array.length_toList, List.length_append, List.length_take] at this
    omega
  refine ⟨rfl, by simp; omega, h5, fun q hq c k hk => ?_, ?_, rfl⟩
  · obtain ⟨h1, h2⟩ := h6 q hq c k hk
    refine ⟨?_, h2⟩
    have hc : c < ks.length := (List.getElem?_eq_some_iff.1 hk).1
    have hlt : q * ks.length + c < m.ev e * ks.length := by
      have : (q + 1) * ks.length ≤ m.ev e * ks.length := Nat.mul_le_mul_right _ hq
      rw [Nat.add_mul] at this; omega
    rw [← Array.getElem?_toList, hl, List.getElem?_append_left (by simp; omega), List.getElem?_take_of_lt (by omega), Array.getElem?_toList]
    exact h1
  · have : (arr2.toList.drop (m.ev e * ks.length)).take (cs ++ new).length = (arr.toList.drop (m.ev e * ks.length)).take cs.length ++ xs := by
      rw [hl, List.drop_append_of_le_length (by simp; omega), List.drop_take, Nat.add_sub_cancel_left]
      have e1 : (List.take cs.length (List.drop (m.ev e * ks.length) arr.toList)).length = cs.length := by simp; omega
      generalize List.take cs.length (List.drop (m.ev e * ks.length) arr.toList) = A at e1
      have e2 : (cs ++ new).length = (A ++ xs).length := by rw [List.length_append, List.length_append, e1, hxl]
      rw [e2, ← List.append_assoc, List.take_left]
    rw [this]
    exact h7.append hx

/-- A new array of rows. -/
theorem rowsNew_good {g' : G} (S : Sim P R e g' W) (h0 : ats[0]? = some t0) (h1 : ats[1]? = some t1) (hu : P.underlying t0 = some (.slice el)) (hu1 : P.underlying t1 = some (.slice el1)) (hi : P.info? el = some i)
    (hz : zeroC P el = some z) (hby : i.bytes ≠ 0) (hzl : z.length = i.size) {base : Option Addr} {sLen sCap n : Nat} {x : Value} {old new : Array Value}
    (hl : ∀ W, (Builtin.lenOf x).run P W = .ok n W) (hn : (Builtin.firstCells i.size n x).run P W.drew = .ok new W.drew)
    (ho : (Builtin.firstCells i.size sLen (.slice base sLen sCap)).run P W.drew = .ok old W.drew) (hgt : sCap < sLen + n)
    (hroom : (4 * (sLen + n) + 4096) * i.bytes ≤ 140737488355328) (hbig : sLen + n ≤ 4294967296) (hon : old.size + new.size = (sLen + n) * i.size)
    {j : Nat} {ks : List IntKind} {m len : SE} {cs : List AV} (hlen : len.ev e = sLen + n)
    (hor : ∀ (arr2 : Array Value) (rest : List Value), arr2.toList = old.toList ++ (new.toList ++ rest) → OR P e (.rows j ks m cs) arr2.size (.cells arr2 el (0, 0))) :
    Good P R e g W ((do pure (.value (← Builtin.append_ ats rt #[.slice base sLen sCap, x])) : Sem Next).run P W) (.val (.slice g'.next 0 len (.room i.size)) (hnew g' (.rows j ks m cs))) := by
  obtain ⟨zx, hz1, hz2⟩ := zeroC_run hz e W.drew
  obtain ⟨cap, k1, k2⟩ := append_grow (rt := rt) h0 h1 hu hu1 hi hl hn ho hz1 hgt hby hroom hbig
  have hzs : zx.cells.size = i.size := by have := hz2.length; simp at this; omega
  let arr : Array Value := old ++ (new ++ Builtin.zeroCells zx.cells (cap - (sLen + n)))
  have harr : arr.size = cap * i.size := by
    simp only [arr, Array.size_append, zeroCells_size, hzs]
    have : (sLen + n) * i.size + (cap - (sLen + n)) * i.size = cap * i.size := by rw [← Nat.add_mul]; congr 1; omega
    omega
  have S' : Sim P R e g' W.drew := S.drew rfl
  have hle : e.Le (e.add g'.next (W.drew.heap.size, arr.size)) := Env.add_le (S'.fresh _ (Nat.le_refl _)) S'.nxt
  obtain ⟨s, l, kp⟩ := S'.alloc (o := .rows j ks m cs) (NewAt.push W.drew (.cells arr el (0, 0))) ((hor arr (Builtin.zeroCells zx.cells (cap - (sLen + n))).toList (by simp [arr])).le hle)
  refine ⟨_, .slice (some ⟨W.heap.size, 0, none⟩) (sLen + n) cap, _, ?_, l, ?_, s, Keep.trans (B := W.drew) ⟨Nat.le_refl _, rfl, rfl, rfl, fun _ _ _ => rfl⟩ kp⟩
  · simp only [Sem.run_bind, k2, Result.andThen, Sem.run_pure]; rfl
  · refine ⟨_, _, cap, Env.add_here .., by rw [SE.ev_le hle.toLw, hlen]; rfl, ?_, ?_, by rw [harr]; omega⟩
    · rw [SE.ev_le hle.toLw, hlen]; simp [half]; omega
    · rw [SE.ev_le hle.toLw, hlen]; exact k1

variable (H : Here P R e g W asm t a nt)
include H
omit H in
theorem loadAll (W : World) {c : Nat} {arr : Array Value} {el : TypeId} (h3 : W.heap[c]? = some (.cells arr el (0, 0))) {n : Nat} (hn : n ≤ arr.size) :
    (loadCells ⟨c, 0, none⟩ n).run P W = .ok (arr.toList.take n).toArray W := by
  have := run_loadCells_list (P := P) W ⟨c, 0, none⟩ (arr.toList.take n) (fun j v hj => by
    rw [addr_add, cell_of_row W c _ arr el _ h3, Nat.zero_add]
    have hjn : j < n := by
      have := (List.getElem?_eq_some_iff.1 hj).1
      simp at this; omega
    rw [List.getElem?_take_of_lt hjn] at hj
    simpa using hj)
  rwa [show (arr.toList.take n).length = n by simp; omega] at this
theorem s_appRowsOf {base : Option Addr} {x : Value} {v : AV} (vx : VR e v x) (h0 : ats[0]? = some t0) (h1 : ats[1]? = some t1) (hu : P.underlying t0 = some (.slice el))
    (hu1 : P.underlying t1 = some (.slice el1)) (hi : P.info? el = some i) (hz : zeroC P el = some z) (hby : i.bytes ≠ 0) (hzl : z.length = i.size) (hs0 : i.size ≠ 0) {r : OpR} (hr : appRowsOf asm g i.size i.bytes v = some r) :
    Good P R e g W ((do pure (.value (← Builtin.append_ ats rt #[.slice base 0 0, x])) : Sem Next).run P W) r := by
  unfold appRowsOf at hr
  split at hr
  · rename_i b off len cap
    split at hr
    · rename_i j ks m cs hg
      cases hr
      split
      · rename_i l bd hl hbd
        cases hc : (Nat.beq off 0 && Nat.beq (llen ks) i.size && Nat.beq (l * i.size) (llen cs) && (Nat.ble 1 l || belowE asm (.lit 0) m) &&
          Nat.ble ((4 * (bd + llen cs) + 4096) * i.bytes) 140737488355328 && Nat.ble (bd + llen cs) 4294967296)
        · trivial
        · simp only [Bool.and_eq_true, llen_eq] at hc
          obtain ⟨⟨⟨⟨⟨c1, c2⟩, c3⟩, c4⟩, c5⟩, c6⟩ := hc
          cases beq_t c1
          have c2 := beq_t c2
          have c3 := beq_t c3
          have c5 := ble_le c5
          have c6 := ble_le c6
          have hbd := boundE_sound H hbd
          rw [cond_true]
          have vx' : ∃ c mm k, e.blk b = some (c, mm) ∧ x = .slice (some ⟨c, 0, none⟩) (len.ev e) k := by
            cases cap with
            | known k => obtain ⟨c, mm, h1, h2, h3⟩ := vx; exact ⟨c, mm, k, h1, h2⟩
            | room k => obtain ⟨c, mm, k, h1, h2, h3⟩ := vx; exact ⟨c, mm, k, h1, h2⟩
          obtain ⟨c, mm, k, hb, rfl⟩ := vx'
          obtain ⟨c', arr, el', g1, g2, g3, g4, g5, g6, g7⟩ := H.sim.rows hg
          rw [hb] at g1; cases g1
          have hsz := hs0
          have hl1 : l ≤ l * i.size := Nat.le_mul_of_pos_right l (by omega)
          have hlen : len.ev e = m.ev e + l := offE_exact hl (by omega)
          have hpos : 0 < len.ev e := by
            rw [Bool.or_eq_true] at c4
            rcases c4 with c4 | c4
            · have := ble_le c4; omega
            · have := belowE_sound H c4
              simp only [SE.ev] at this; omega
          have htot : len.ev e * i.size = m.ev e * ks.length + cs.length := by rw [hlen, Nat.add_mul, c3, c2]
          have hmono : (4 * (0 + len.ev e) + 4096) * i.bytes ≤ 140737488355328 := Nat.le_trans (Nat.mul_le_mul_right _ (by omega)) c5
          refine rowsNew_good H.sim h0 h1 hu hu1 hi hz hby hzl (n := len.ev e) (old := #[]) (new := (arr.toList.take (len.ev e * i.size)).toArray) (fun W => rfl) ?_ ?_ (by omega) hmono (by omega) (by simp; omega) (by omega) ?_
          · exact loadAll W.drew g3 (by omega)
          · cases base with
            | none => simp [Builtin.firstCells]
            | some ad => simp [Builtin.firstCells, loadCells, loadCellsFrom]
          · intro arr2 rest h2
            have := OR.rowsOf (P := P) (new := []) (xs := []) (rest := rest) (arr2 := arr2) (el := el) g4 (by simpa using g5) g6 g7 trivial (by rw [← htot]; simpa using h2)
            simpa using this
      · trivial
    · cases hr
  · cases hr
theorem s_appRows {s x : Operand} {xs xx : XOpd} (hs : compO nt s = some xs) (hx : compO nt x = some xx) (h0 : ats[0]? = some t0) (h1 : ats[1]? = some t1) (hu : P.underlying t0 = some (.slice el))
    (hu1 : P.underlying t1 = some (.slice el1)) (hi : P.info? el = some i) (hz : zeroC P el = some z) (hby : i.bytes ≠ 0) (hzl : z.length = i.size) (hs0 : i.size ≠ 0) {r : OpR} (hr : appRows asm g i.size i.bytes (opd t xs) (opd t xx) = some r) :
    Good P R e g W ((do pure (.value (← Builtin.append_ ats rt #[a.eval s, a.eval x])) : Sem Next).run P W) r := by
  have vs := H.opd hs
  have vx := H.opd hx
  unfold appRows at hr
  split at hr
  · rename_i b off len cap he
    rw [he] at vs
    split at hr
    · rename_i j ks m cs hg
      split at hr
      · cases hr; trivial
      · rename_i n new hsrc
        cases hr
        cases hn0 : Nat.beq n 0
        · have hnz : 0 < n := by have := beq_f hn0; omega
          rw [cond_false]
          split
          · trivial
          · rename_i sz
            split
            · rename_i l bd hl hbd
              cases hc : (Nat.beq off 0 && Nat.beq sz i.size && Nat.beq (llen ks) i.size && allOne new && Nat.beq (l * i.size) (llen cs) &&
                Nat.ble ((4 * (bd + llen cs + n) + 4096) * i.bytes) 140737488355328 && Nat.ble (bd + llen cs + n) 4294967296 && Nat.ble i.size 65536)
              · trivial
              · simp only [Bool.and_eq_true, llen_eq] at hc
                obtain ⟨⟨⟨⟨⟨⟨⟨c1, c1'⟩, c2⟩, hone⟩, c3⟩, c5⟩, c6⟩, c7⟩ := hc
                have c7 := ble_le c7
                cases beq_t c1
                cases beq_t c1'
                have c2 := beq_t c2
                have c3 := beq_t c3
                have c5 := ble_le c5
                have c6 := ble_le c6
                have hbd := boundE_sound H hbd
                rw [cond_true]
                obtain ⟨c, mm, k, hb, vs, hhalf, hle, hroom⟩ := vs
                obtain ⟨c', arr, el', g1, g2, g3, g4, g5, g6, g7⟩ := H.sim.rows hg
                rw [hb] at g1; cases g1
                have hsz := hs0
                have hl1 : l ≤ l * i.size := Nat.le_mul_of_pos_right l (by omega)
                have hlen : len.ev e = m.ev e + l := offE_exact hl (by omega)
                have htot : len.ev e * i.size = m.ev e * ks.length + cs.length := by rw [hlen, Nat.add_mul, c3, c2]
                obtain ⟨hln, hnl, ys, hn1, hn2⟩ := appSrc_run (P := P) H.sim vx hsrc
                have hd : Sim P R e g W.drew := H.sim.drew rfl
                obtain ⟨_, _, zs, hn3, hn4⟩ := appSrc_run (P := P) hd vx hsrc
                have hnewlen : n ≤ new.length := by rw [hnl]; exact Nat.le_mul_of_pos_right n (by omega)
                have hlen2 : (mkBin .add .i64 len (.lit n)).ev e = len.ev e + n := by
                  rw [mkBin_ev]
                  exact Nat.mod_eq_of_lt (by simp only [md, SE.ev]; omega)
                have hbnd : m.ev e + (cs ++ new).length < 2 ^ 60 := by
                  have hb1 : n * i.size ≤ n * 65536 := Nat.mul_le_mul_left _ c7
                  rw [List.length_append, hnl]
                  omega
                rw [vs, lapp_eq]
                by_cases hin : len.ev e + n ≤ k
                · -- in its room
                  have hmul : (len.ev e + n) * i.size ≤ k * i.size := Nat.mul_le_mul_right _ hin
                  rw [Nat.add_mul] at hmul
                  have hxl := hn2.length
                  have hst := run_storeCells_at P c (len.ev e * i.size) el' ys.toList 0 arr W g3 (by omega) (allOne_spec hn2 hone)
                  simp only [Nat.add_zero] at hst
                  let arr' : Array Value := (arr.toList.take (len.ev e * i.size) ++ ys.toList ++ arr.toList.drop (len.ev e * i.size + ys.toList.length)).toArray
                  have hput : PutAt W (W.setRow c arr') c (.cells arr' el' (0, 0)) :=
                    ⟨setRow_heap W c arr _ el' (0, 0) g3, fun c' hc' => by simp [World.setRow, Array.getElem?_modify, Ne.symm hc'], by simp [World.setRow], rfl, rfl, rfl⟩
                  have hle2 : e.Le (e.add g.next (c, arr.size)) := Env.add_le (H.sim.fresh _ (Nat.le_refl _)) H.sim.nxt
                  have hsz' : arr'.size = arr.size := by simp [arr']; simp at hxl; omega
                  have hor := (OR.rowsOf (P := P) (rest := arr.toList.drop (len.ev e * i.size + ys.toList.length)) (arr2 := arr') (el := el') g4 hbnd g6 g7 hn2 (by rw [← htot]; simp [arr'])).le hle2.toLw
                  rw [hsz'] at hor
                  obtain ⟨s1, s2, s3⟩ := H.sim.move hg trivial hb hput hor
                  refine ⟨_, .slice (some ⟨c, 0, none⟩) (len.ev e + n) k, _, ?_, s2, ⟨c, arr.size, k, Env.add_here .., by rw [SE.ev_le hle2.toLw, hlen2], by rw [SE.ev_le hle2.toLw, hlen2]; simp [half]; omega, by rw [SE.ev_le hle2.toLw, hlen2]; exact hin, hroom⟩, s1, s3⟩
                  simp only [Sem.run_bind, append_some (rt := rt) h0 h1 hu hu1 hi hln hn1 hin (by rw [addr_add, Nat.zero_add]; exact hst), Result.andThen, Sem.run_pure]
                  rfl
                · -- a new array
                  have hmono : (4 * (len.ev e + n) + 4096) * i.bytes ≤ 140737488355328 := Nat.le_trans (Nat.mul_le_mul_right _ (by omega)) c5
                  refine rowsNew_good (H.sim.forget b) h0 h1 hu hu1 hi hz hby hzl (old := (arr.toList.take (len.ev e * i.size)).toArray) hln hn3 (loadAll W.drew g3 (by omega)) (by omega) hmono (by omega) ?_ hlen2 ?_
                  · have := hn4.length
                    simp at this
                    rw [Nat.add_mul]; simp; omega
                  · intro arr2 rest h2
                    exact OR.rowsOf (P := P) (rest := rest) (arr2 := arr2) (el := el) g4 hbnd g6 g7 hn4 (by rw [← htot]; simpa using h2)
            · trivial
        · trivial
    · split at hr
      · rename_i l
        split at hr
        · rename_i c
          cases hc : (Nat.beq l 0 && Nat.beq c 0)
          · rw [hc] at hr; cases hr
          · rw [hc, cond_true] at hr
            rw [Bool.and_eq_true] at hc
            cases beq_t hc.1
            cases beq_t hc.2
            obtain ⟨c, mm, hb, vs, _⟩ := vs
            rw [vs]
            exact s_appRowsOf H vx h0 h1 hu hu1 hi hz hby hzl hs0 hr
        · cases hr
      · cases hr
  · rename_i he
    rw [he] at vs
    have vs : a.eval s = .slice none 0 0 := vs
    rw [vs]
    exact s_appRowsOf H vx h0 h1 hu hu1 hi hz hby hzl hs0 hr
  · rename_i he
    rw [he] at vs
    obtain ⟨ad, c, vs, hc⟩ := vs
    cases hc rfl
    rw [vs]
    exact s_appRowsOf H vx h0 h1 hu hu1 hi hz hby hzl hs0 hr
  · cases hr
theorem s_append {s x : Operand} {xs xx : XOpd} (hs : compO nt s = some xs) (hx : compO nt x = some xx) (h0 : ats[0]? = some t0) (h1 : ats[1]? = some t1) (hu : P.underlying t0 = some (.slice el))
    (hu1 : P.underlying t1 = some (.slice el1)) (hi : P.info? el = some i) (hz : zeroC P el = some z) (hby : i.bytes ≠ 0) (hzl : z.length = i.size) (hs0 : i.size ≠ 0) :
    Good P R e g W ((do pure (.value (← Builtin.append_ ats rt #[a.eval s, a.eval x])) : Sem Next).run P W) (o_append asm i.size i.bytes xs xx t g) := by
  have vs := H.opd hs
  have vx := H.opd hx
  unfold o_append
  split
  · rename_i r hr
    exact s_appRows H hs hx h0 h1 hu hu1 hi hz hby hzl hs0 hr
  rename_i hnone
  clear hnone
  unfold appendV
  split
  · trivial
  · rename_i n new hsrc
    obtain ⟨hl, hnl, ys, hn1, hn2⟩ := appSrc_run (P := P) H.sim vx hsrc
    have hd : Sim P R e g W.drew := H.sim.drew rfl
    obtain ⟨_, _, zs, hn3, hn4⟩ := appSrc_run (P := P) hd vx hsrc
    cases hone : allOne new
    · trivial
    · rw [Bool.not_true, cond_false]
      cases hn0 : Nat.beq n 0
      · have hnz : 0 < n := by have := beq_f hn0; omega
        rw [cond_false]
        split
        · rename_i he
          rw [he] at vs
          have vs : a.eval s = .slice none 0 0 := vs
          rw [vs]
          exact appNew_good H.sim trivial h0 h1 hu hu1 hi hz hby hzl hl hn3 (old := #[]) (by simp [Builtin.firstCells]) (by omega) hnz (by simpa using hn4) hnl
        · rename_i he
          rw [he] at vs
          obtain ⟨ad, c, vs, hc⟩ := vs
          cases hc rfl
          rw [vs]
          exact appNew_good H.sim trivial h0 h1 hu hu1 hi hz hby hzl hl hn3 (old := #[]) (by simp [Builtin.firstCells, loadCells, loadCellsFrom]) (by omega) hnz (by simpa using hn4) hnl
        · rename_i b off l cap he
          rw [he] at vs
          split
          · rename_i cs ow tl hg
            cases hfit : Nat.ble (off + l * i.size) (llen cs)
            · trivial
            · have hfit' := ble_le hfit
              rw [llen_eq] at hfit'
              rw [cond_true]
              have hload : loadAt g (some (l * i.size)) b off = some (.agg (cut cs off (l * i.size))) := by
                unfold loadAt; rw [hg]; simp only; rw [hfit]; rfl
              split
              · rename_i c
                obtain ⟨c', mm, hb, vs, hle, hlt⟩ := vs
                have hle : l ≤ c := hle
                have vs : a.eval s = .slice (some ⟨c', off, none⟩) l c := vs
                rw [vs]
                obtain ⟨old, ho1, ho2⟩ := hd.loadN (P := P) hb hload
                obtain ⟨old', q1, q2⟩ := ho2
                cases q1
                cases hin : Nat.ble (l + n) c
                · rw [cond_false]
                  have := ble_lt hin
                  refine appNew_good H.sim trivial h0 h1 hu hu1 hi hz hby hzl hl hn3 (old := old) (by simpa [Builtin.firstCells] using ho1) rfl this ?_ ?_
                  · rw [lapp_eq]; exact q2.append hn4
                  · rw [lapp_eq, List.length_append, cut_eq, hnl, Nat.add_mul]; simp; omega
                · have hin' := ble_le hin
                  rw [cond_true]
                  cases hroom : (ow && Nat.ble (off + c * i.size) (llen cs))
                  · trivial
                  · simp only [Bool.and_eq_true] at hroom
                    obtain ⟨rfl, hroom⟩ := hroom
                    have hroom := ble_le hroom
                    rw [llen_eq] at hroom
                    rw [cond_true]
                    have hmul : (l + n) * i.size ≤ c * i.size := Nat.mul_le_mul_right _ hin'
                    rw [Nat.add_mul] at hmul
                    obtain ⟨W', r1, r2, r3⟩ := H.sim.storeC (P := P) (off := off + l * i.size) hb hg (by rw [hnl]; omega) hn2 hone
                    refine ⟨e, .slice (some ⟨c', off, none⟩) (l + n) c, W', ?_, Env.Le.refl e, ⟨c', mm, hb, rfl, hin', hlt⟩, r2, r3⟩
                    simp only [Sem.run_bind, append_some (rt := rt) h0 h1 hu hu1 hi hl hn1 hin' (by rw [addr_add]; exact r1), Result.andThen, Sem.run_pure]
              · rename_i sz
                cases hcnd : (Nat.beq off 0 && tl && Nat.beq sz i.size && Nat.beq (l * i.size) (llen cs))
                · trivial
                · simp only [Bool.and_eq_true] at hcnd
                  obtain ⟨⟨⟨d1, rfl⟩, d2⟩, d3⟩ := hcnd
                  cases beq_t d1
                  cases beq_t d2
                  have d3 := beq_t d3
                  rw [llen_eq] at d3
                  rw [cond_true]
                  obtain ⟨c', mm, k, hb, vs, hhalf, hle, hroom⟩ := vs
                  have vs : a.eval s = .slice (some ⟨c', 0, none⟩) l k := vs
                  have hle : l ≤ k := hle
                  rw [vs, lapp_eq]
                  by_cases hin : l + n ≤ k
                  · have hmul : (l + n) * i.size ≤ k * i.size := Nat.mul_le_mul_right _ hin
                    rw [Nat.add_mul] at hmul
                    obtain ⟨W', r1, r2, r3, r4⟩ := H.sim.behind (P := P) hg hb (by rw [hnl]; omega) hn2 hone
                    unfold appNew
                    cases hbig : (Nat.ble ((4 * (l + n) + 4096) * i.bytes) 140737488355328 && Nat.ble (l + n) 4294967296)
                    · trivial
                    · simp only [Bool.and_eq_true] at hbig
                      have hsm := ble_le hbig.2
                      rw [cond_true]
                      refine ⟨_, .slice (some ⟨c', 0, none⟩) (l + n) k, W', ?_, r3, ⟨c', mm, k, Env.add_here .., rfl, by show l + n < half .i64; simp [half]; omega, hin, hroom⟩, r2, r4⟩
                      simp only [Sem.run_bind, append_some (rt := rt) h0 h1 hu hu1 hi hl hn1 hin (by rw [addr_add, Nat.zero_add, d3]; exact r1), Result.andThen, Sem.run_pure]
                  · obtain ⟨old, ho1, ho2⟩ := hd.loadN (P := P) hb hload
                    obtain ⟨old', q1, q2⟩ := ho2
                    cases q1
                    have hcut : cut cs 0 (l * i.size) = cs := by rw [cut_eq, d3]; simp
                    rw [hcut] at q2
                    refine appNew_good (H.sim.weaken hg) trivial h0 h1 hu hu1 hi hz hby hzl hl hn3 (old := old) (by simpa [Builtin.firstCells] using ho1) rfl (by omega) (q2.append hn4) ?_
                    rw [List.length_append, hnl, ← d3, Nat.add_mul]
          · trivial
        · trivial
      · cases beq_t hn0
        rw [cond_true]
        have hys : ys = #[] := by
          have := hn2.length
          rw [hnl] at this
          apply Array.eq_empty_of_size_eq_zero
          simp at this; omega
        subst hys
        split
        · rename_i he
          rw [he] at vs
          have vs : a.eval s = .slice none 0 0 := vs
          rw [vs]
          refine Good.pure H (x := .slice none 0 0) ?_ (show VR e (opd t xs) _ by rw [he]; rfl)
          simp only [Sem.run_bind, append_none (rt := rt) h0 h1 hu hu1 hi hl hn1 (by omega : 0 + 0 ≤ 0), Result.andThen, Sem.run_pure]
        · rename_i zz he
          have vs' := vs
          rw [he] at vs
          obtain ⟨ad, c, vs, hc⟩ := vs
          rw [vs] at vs' ⊢
          refine Good.pure H (x := .slice (some ad) 0 c) ?_ vs'
          simp only [Sem.run_bind, append_some (rt := rt) h0 h1 hu hu1 hi hl hn1 (by omega : 0 + 0 ≤ c) (show (storeCells (ad.add (0 * i.size)) (#[] : Array Value).toList).run P W = .ok () W by simp [storeCells]), Result.andThen, Sem.run_pure]
        · rename_i b off l cap he
          have vs' := vs
          rw [he] at vs
          have hv' : ∃ c k, a.eval s = .slice (some ⟨c, off, none⟩) l k ∧ l ≤ k := by
            cases cap with
            | known k => obtain ⟨c, mm, h1, h2, h3⟩ := vs; exact ⟨c, k, h2, h3.1⟩
            | room k => obtain ⟨c, mm, k, h1, h2, h3⟩ := vs; exact ⟨c, k, h2, h3.2.1⟩
          obtain ⟨c, k, vs, hle⟩ := hv'
          rw [vs] at vs' ⊢
          refine Good.pure H (x := .slice (some ⟨c, off, none⟩) l k) ?_ vs'
          simp only [Sem.run_bind, append_some (rt := rt) h0 h1 hu hu1 hi hl hn1 (by omega : l + 0 ≤ k) (show (storeCells ((⟨c, off, none⟩ : Addr).add (l * i.size)) (#[] : Array Value).toList).run P W = .ok () W by simp [storeCells]), Result.andThen, Sem.run_pure]
          rfl
        · trivial
end
end Go.Sx
/-
  Calls, deferred calls, selects of one case with a default; all operations together.
-/
namespace Go.Sx
open Go

variable {P : Program} {R : Nat → Prop} {e : Env} {g : G} {W : World} {asm : Asm} {t : Tr AV} {a : Act} {nt : Nat}

theorem opds_one {as : Array Operand} {x : XOpd} (h : compOs nt as = some [x]) : ∃ o, as = #[o] ∧ compO nt o = some x := by
  unfold compOs at h
  cases hl : as.toList with
  | nil => rw [hl] at h; cases h
  | cons o l =>
    rw [hl] at h
    obtain ⟨b, s, h1, h2, h3⟩ := optMap_cons h
    cases h3
    cases l with
    | nil => exact ⟨o, Array.toList_inj.1 (by simp [hl]), h1⟩
    | cons p l => obtain ⟨_, _, _, _, h3⟩ := optMap_cons h2; cases h3
theorem opds_two {as : Array Operand} {x y : XOpd} (h : compOs nt as = some [x, y]) : ∃ o p, as = #[o, p] ∧ compO nt o = some x ∧ compO nt p = some y := by
  unfold compOs at h
  cases hl : as.toList with
  | nil => rw [hl] at h; cases h
  | cons o l =>
    rw [hl] at h
    obtain ⟨b, s, h1, h2, h3⟩ := optMap_cons h
    cases h3
    cases l with
    | nil => cases h2
    | cons p l =>
      obtain ⟨_, _, h4, h5, h3⟩ := optMap_cons h2
      cases h3
      cases l with
      | nil => exact ⟨o, p, Array.toList_inj.1 (by simp [hl]), h1, h4⟩
      | cons q l => obtain ⟨_, _, _, _, h3⟩ := optMap_cons h5; cases h3

/-- A communication comes to so much, on the machine of one goroutine. -/
def CommTo (P : Program) (W : World) (cases : Array CommCase) (x : Value) (W' : World) : Prop :=
  ∀ fr cs es, stepG P true { frame := fr, callers := cs, status := .running, dying := none } W = .comm { frame := fr, callers := cs, status := .running, dying := none } cases false .select W es →
    step P (lone fr cs W) = .next (lone (fr.finish x) cs W')
/-- What an operation comes to, a communication too. -/
def GoodC (P : Program) (R : Nat → Prop) (e : Env) (g : G) (W : World) (res : Result Next) (r : OpR) : Prop :=
  Good P R e g W res r ∨ ∃ v g' cases e' x W', r = .val v g' ∧ res = .ok (.comm cases false .select) W ∧ CommTo P W cases x W' ∧ e.Le e' ∧ VR e' v x ∧ Sim P R e' g' W' ∧ Keep R W W'

/-! ### Selects -/
namespace Sel
open Go.Conc
variable {fr : Frame} {cs : List Frame} {w : World} {es : Array Event} {c cap s r : Nat} {buf : Array Value} {z v : Value} {tm : Bool}
theorem send_room (h : stepG P true (Conc.G fr cs) w = .comm (Conc.G fr cs) #[{ chan := .chan (some c), send := some v, zero := z }] false .select w es) (hc : w.heap[c]? = some (.chan cap buf false s r tm)) (hroom : buf.size < cap) :
    step P (solo (Conc.G fr cs) w) = .next (solo (Conc.G (fr.finish (.tuple #[goInt 0, .bool false])) cs) { w with heap := w.heap.setIfInBounds c (.chan cap (buf.push v) false (s + 1) r tm) }) := by
  have hp := partners_alone (c := c) false
  rw [step, stepT_solo rfl]
  simp [runT, solo, Conc.G, Array.swapAt!, Array.swapAt, h, GStep.es, communicate, ways, hc, hp, hroom, choose, Sem.run, Question.forced, bind, Sem.bind, pure, Goroutine.finishComm, commResult] at h ⊢
theorem send_full (h : stepG P true (Conc.G fr cs) w = .comm (Conc.G fr cs) #[{ chan := .chan (some c), send := some v, zero := z }] false .select w es) (hc : w.heap[c]? = some (.chan cap buf false s r tm)) (hroom : ¬ buf.size < cap) :
    step P (solo (Conc.G fr cs) w) = .next (solo (Conc.G (fr.finish (.tuple #[goInt (-1), .bool false])) cs) w) := by
  have hp := partners_alone (c := c) false
  rw [step, stepT_solo rfl]
  simp [runT, solo, Conc.G, Array.swapAt!, Array.swapAt, h, GStep.es, communicate, ways, hc, hp, hroom, choose, Sem.run, Question.forced, bind, Sem.bind, pure, Goroutine.finishComm, commResult] at h ⊢
theorem recv_got (h : stepG P true (Conc.G fr cs) w = .comm (Conc.G fr cs) #[{ chan := .chan (some c), send := none, zero := z }] false .select w es) (hc : w.heap[c]? = some (.chan cap buf false s r tm)) (hsome : 0 < buf.size) :
    step P (solo (Conc.G fr cs) w) = .next (solo (Conc.G (fr.finish (.tuple #[goInt 0, .bool true, buf.getD 0 _root_.Go.undef])) cs) { w with heap := w.heap.setIfInBounds c (.chan cap (buf.extract 1 buf.size) false s (r + 1) tm) }) := by
  have hp := partners_alone (c := c) true
  rw [step, stepT_solo rfl]
  simp [runT, solo, Conc.G, Array.swapAt!, Array.swapAt, h, GStep.es, communicate, ways, hc, hp, hsome, choose, Sem.run, Question.forced, bind, Sem.bind, pure, Goroutine.finishComm, commResult] at h ⊢
end Sel
theorem comm_send_room {c cap s r : Nat} {buf : Array Value} {v z : Value} {tm : Bool} (hc : W.heap[c]? = some (.chan cap buf false s r tm)) (hroom : buf.size < cap) :
    CommTo P W #[{ chan := .chan (some c), send := some v, zero := z }] (.tuple #[goInt 0, .bool false]) { W with heap := W.heap.setIfInBounds c (.chan cap (buf.push v) false (s + 1) r tm) } :=
  fun _ _ _ h => Sel.send_room h hc hroom
theorem comm_send_full {c cap s r : Nat} {buf : Array Value} {v z : Value} {tm : Bool} (hc : W.heap[c]? = some (.chan cap buf false s r tm)) (hroom : ¬ buf.size < cap) :
    CommTo P W #[{ chan := .chan (some c), send := some v, zero := z }] (.tuple #[goInt (-1), .bool false]) W :=
  fun _ _ _ h => Sel.send_full h hc hroom
theorem comm_recv_got {c cap s r : Nat} {buf : Array Value} {z : Value} {tm : Bool} (hc : W.heap[c]? = some (.chan cap buf false s r tm)) (hsome : 0 < buf.size) :
    CommTo P W #[{ chan := .chan (some c), send := none, zero := z }] (.tuple #[goInt 0, .bool true, buf.getD 0 _root_.Go.undef]) { W with heap := W.heap.setIfInBounds c (.chan cap (buf.extract 1 buf.size) false s (r + 1) tm) } :=
  fun _ _ _ h => Sel.recv_got h hc hsome
theorem comm_recv_none {c cap s r : Nat} {z : Value} {tm : Bool} (hc : W.heap[c]? = some (.chan cap #[] false s r tm)) :
    CommTo P W #[{ chan := .chan (some c), send := none, zero := z }] (.tuple #[goInt (-1), .bool false, z]) W :=
  fun _ _ _ h => Conc.step_lone_select_default h hc

section
variable (H : Here P R e g W asm t a nt)
include H

/-! ### Calls -/
theorem s_callF {o : Oper} {c : Call} {f : FuncId} {as : List XOpd} (ho : o.op = .call c) (hc : c.callee = .value (.func f)) (ha : compOs nt c.args = some as) :
    Good P R e g W ((execOp a.eval o).run P W) (o_callF f as t g) := by
  refine ⟨rfl, c.args.map a.eval, H.opds ha, ?_⟩
  simp [execOp, ho, resolve, hc, Act.eval, Deferred.ofValue, invoke, Result.andThen]

theorem s_call {o : Oper} {c : Call} {f : Operand} {x : XOpd} {as : List XOpd} (ho : o.op = .call c) (hc : c.callee = .value f) (hx : compO nt f = some x) (ha : compOs nt c.args = some as) :
    Good P R e g W ((execOp a.eval o).run P W) (o_call x as t g) := by
  have hv := H.opd hx
  have ha := H.opds ha
  unfold o_call
  split
  · rename_i f' fs cs he
    rw [he] at hv
    obtain ⟨xs, ys, hv, h1, h2⟩ := hv
    refine ⟨rfl, xs ++ c.args.map a.eval ++ ys, ?_, ?_⟩
    · rw [lapp_eq, lapp_eq]
      simp only [Array.toList_append, List.append_assoc]
      exact h1.append (ha.append h2)
    · simp [execOp, ho, resolve, hc, hv, Deferred.ofValue, invoke, Result.andThen]
  · rename_i l he
    rw [he] at hv
    obtain ⟨c', n, hb, hv⟩ := hv
    refine ⟨rfl, c', n, c.args.map a.eval, hb, ha, ?_⟩
    simp [execOp, ho, resolve, hc, hv, Deferred.ofValue, invoke, Result.andThen]
  · trivial

omit H in
theorem methodsOf_mem {m : String} {ty : TypeId} {f : FuncId} (h : (ty, f) ∈ methodsOf P m) :
    ∃ i r ptr, P.info? ty = some i ∧ i.methods.find? (·.name == m) = some r ∧ r.path.isEmpty = true ∧ r.func = some (f, ptr) ∧
      ((∃ el, P.underlying ty = some (.pointer el) ∧ ptr = true) ∨ (∃ d, P.underlying ty = some d ∧ (∀ el, d ≠ .pointer el) ∧ ptr = false)) ∧ ty < P.types.size := by
  unfold methodsOf at h
  obtain ⟨t', ht, h⟩ := List.mem_filterMap.1 h
  have hlt : t' < P.types.size := by simpa using ht
  cases hi : P.info? t' with
  | none => rw [hi] at h; cases h
  | some i =>
    rw [hi] at h
    simp only at h
    cases hf : i.methods.find? (·.name == m) with
    | none => rw [hf] at h; cases h
    | some r =>
      rw [hf] at h
      obtain ⟨nm, sg, path, func⟩ := r
      cases func with
      | none => cases h
      | some p =>
        obtain ⟨f', ptr⟩ := p
        simp only at h
        cases hp : path.isEmpty
        · rw [hp] at h; cases h
        · rw [hp, cond_true] at h
          split at h
          · rename_i el hu
            cases hptr : ptr
            · rw [hptr] at h; cases h
            · rw [hptr] at h; cases h
              exact ⟨i, _, true, hi, hf, hp, by rw [hptr], .inl ⟨el, hu, rfl⟩, hlt⟩
          · rename_i d hne hu
            cases hptr : ptr
            · rw [hptr] at h; cases h
              exact ⟨i, _, false, hi, hf, hp, by rw [hptr], .inr ⟨d, hu, fun el he => by subst he; exact hne el rfl, rfl⟩, hlt⟩
            · rw [hptr] at h; cases h
          · cases h
omit H in
theorem pickM (ty : TypeId) (f : FuncId) (ms : List (TypeId × FuncId)) : ∀ (acc : Option FuncId),
    lfold (fun (m : TypeId × FuncId) acc => match acc with | some f => some f | none => cond (Nat.beq m.1 ty) (some m.2) none) ms acc = some f → acc = some f ∨ (ty, f) ∈ ms := by
  induction ms with
  | nil => intro acc h; exact .inl h
  | cons m ms ih =>
    intro acc h
    rcases ih _ h with h' | h'
    · cases acc with
      | some q => exact .inl h'
      | none =>
        simp only at h'
        cases hb : Nat.beq m.1 ty
        · rw [hb] at h'; cases h'
        · rw [hb] at h'; cases h'
          refine .inr ?_
          rw [← beq_t hb]
          exact List.mem_cons_self
    · exact .inr (List.mem_cons_of_mem _ h')

theorem s_invoke {o : Oper} {c : Call} {r : Operand} {m : String} {x : XOpd} {as : List XOpd} (ho : o.op = .call c) (hc : c.callee = .invoke r m) (hx : compO nt r = some x) (ha : compOs nt c.args = some as) :
    Good P R e g W ((execOp a.eval o).run P W) (o_invoke (methodsOf P m) x as t g) := by
  have hv := H.opd hx
  have ha := H.opds ha
  unfold o_invoke
  split
  · rename_i ty v he
    rw [he] at hv
    obtain ⟨y, hv, hy⟩ := hv
    split
    · rename_i f hf
      rcases pickM ty f _ none hf with h | h
      · cases h
      · obtain ⟨i, row, ptr, hi, hr, hp, hfn, hu, hlt⟩ := methodsOf_mem h
        refine ⟨rfl, #[y] ++ c.args.map a.eval, ?_, ?_⟩
        · simp only [Array.toList_append]
          exact ⟨hy, ha⟩
        · have hm : (method (P.types.size + Made.depth) ty y m).run P W = .ok (f, y) W := by
            have hpos : 0 < P.types.size := Nat.lt_of_le_of_lt (Nat.zero_le _) hlt
            obtain ⟨k, hk⟩ : ∃ k, P.types.size + Made.depth = k + 1 := ⟨P.types.size + Made.depth - 1, by omega⟩
            rw [hk]
            have hpe : row.path.toList = [] := by simpa using hp
            rcases hu with ⟨el, hu, rfl⟩ | ⟨d, hu, hne, rfl⟩
            · simp [method, info_run hi, hr, hpe, follow, hfn, receiverAt, run_underlying hu, Place.get, Result.andThen]
            · cases d <;> first
                | (exact absurd rfl (hne _))
                | simp [method, info_run hi, hr, hpe, follow, hfn, receiverAt, run_underlying hu, Place.get, Result.andThen]
          have h0 : (#[Value.iface ty y] ++ c.args.map a.eval)[0]? = some (.iface ty y) := by
            rw [← Array.getElem?_toList]; simp
          have h1 : (#[Value.iface ty y] ++ c.args.map a.eval).extract 1 (#[Value.iface ty y] ++ c.args.map a.eval).size = c.args.map a.eval :=
            Array.toList_inj.1 (by simp only [Array.toList_extract, List.extract_eq_take_drop, Array.toList_append, Array.size_append]; simp; exact List.take_of_length_le (by simp))
          simp only [execOp, ho, resolve, hc, hv, Sem.run_bind, Sem.run_pure, Result.andThen, invoke]
          rw [h0, h1]
          simp [callMethod, hm, Result.andThen]
    · trivial
  · trivial

theorem s_defer {o : Oper} {c : Call} {f : FuncId} {as : List XOpd} (ho : o.op = .defer c) (hc : c.callee = .value (.func f)) (ha : compOs nt c.args = some as) :
    Good P R e g W ((execOp a.eval o).run P W) (o_defer f as t g) := by
  refine ⟨{ target := .fn (.func f) #[], args := c.args.map a.eval }, ⟨_, rfl, H.opds ha⟩, ?_⟩
  simp [execOp, ho, resolve, hc, Act.eval, Deferred.ofValue, Result.andThen]

theorem s_selSend {o : Oper} {c : SelectCase} {x y : XOpd} {v : Operand} {i : TypeInfo} (ho : o.op = .select #[c] false) (hx : compO nt c.chan = some x) (hs : c.send = some v) (hv : compO nt v = some y) (hi : P.info? c.elem = some i)
    (hz : i.zero.isSome = true) : GoodC P R e g W ((execOp a.eval o).run P W) (o_selSend x y t g) := by
  have vx := H.opd hx
  have vy := H.opd hv
  obtain ⟨z, hz⟩ := Option.isSome_iff_exists.1 hz
  have hzr : (zeroValue c.elem).run P W = .ok z W := by simp [zeroValue, info_run hi, hz, Result.andThen]
  have hrun : (execOp a.eval o).run P W = .ok (.comm #[{ chan := a.eval c.chan, send := some (a.eval v), zero := z }] false .select) W := by
    simp [execOp, ho, hs, hzr, Array.mapM_eq_mapM_toList, Result.andThen]
  unfold o_selSend
  split
  · rename_i r he
    rw [he] at vx
    obtain ⟨cc, n, hb, vx⟩ := vx
    split
    · rename_i cap buf hg
      obtain ⟨b, s, q, h1, h2⟩ := H.sim.chan hb hg
      have hl : buf.length = b.size := by have := h2.length; simpa using this
      cases hfull : Nat.ble cap (llen buf)
      · have hlt := ble_lt hfull
        rw [llen_eq] at hlt
        rw [cond_false]
        obtain ⟨S, K⟩ := H.sim.put (o' := .chan cap (lapp buf [opd t y])) hg trivial hb (setObj_put (ob' := .chan cap (b.push (a.eval v)) false (s + 1) q false) h1)
          ⟨rfl, rfl, rfl, by rw [lapp_eq, Array.toList_push]; exact h2.append ⟨vy, trivial⟩⟩
        exact .inr ⟨_, _, _, e, _, _, rfl, by rw [hrun, vx], comm_send_room h1 (by omega), Env.Le.refl e, ⟨_, rfl, by refine ⟨rfl, ?_⟩; simp [SE.ev, md], rfl, trivial⟩, S, K⟩
      · have hle := ble_le hfull
        rw [llen_eq] at hle
        rw [cond_true]
        exact .inr ⟨_, _, _, e, _, _, rfl, by rw [hrun, vx], comm_send_full h1 (by omega), Env.Le.refl e, ⟨_, rfl, by refine ⟨rfl, ?_⟩; simp [SE.ev, md], rfl, trivial⟩, H.sim, Keep.refl R W⟩
    · exact .inl trivial
  · exact .inl trivial

theorem s_selRecv {o : Oper} {c : SelectCase} {x : XOpd} {z : AV} (ho : o.op = .select #[c] false) (hx : compO nt c.chan = some x) (hs : c.send = none) (hz : zeroV P c.elem = some z) :
    GoodC P R e g W ((execOp a.eval o).run P W) (o_selRecv x z t g) := by
  have vx := H.opd hx
  obtain ⟨zx, hz1, hz2⟩ := zeroV_run hz e W
  have hrun : (execOp a.eval o).run P W = .ok (.comm #[{ chan := a.eval c.chan, send := none, zero := zx }] false .select) W := by
    simp [execOp, ho, hs, hz1, Array.mapM_eq_mapM_toList, Result.andThen]
  unfold o_selRecv
  split
  · rename_i r he
    rw [he] at vx
    obtain ⟨cc, n, hb, vx⟩ := vx
    split
    · rename_i cap v buf hg
      obtain ⟨b, s, q, h1, h2⟩ := H.sim.chan hb hg
      cases hbl : b.toList with
      | nil => rw [hbl] at h2; exact h2.elim
      | cons y l =>
        rw [hbl] at h2
        have hsz : 0 < b.size := by have : b.toList.length = l.length + 1 := by rw [hbl]; rfl
                                    simp at this; omega
        have h0 : b.getD 0 _root_.Go.undef = y := by
          have : b[0]? = some y := by rw [← Array.getElem?_toList, hbl]; rfl
          simp [Array.getD_eq_getD_getElem?, this]
        have hrest : (b.extract 1 b.size).toList = l := by
          rw [Array.toList_extract, List.extract_eq_take_drop, hbl]
          have : b.size = l.length + 1 := by rw [← Array.length_toList, hbl]; rfl
          rw [this]; simp
        obtain ⟨S, K⟩ := H.sim.put (o' := .chan cap buf) hg trivial hb (setObj_put (ob' := .chan cap (b.extract 1 b.size) false s (q + 1) false) h1)
          ⟨rfl, rfl, rfl, by rw [hrest]; exact h2.2⟩
        exact .inr ⟨_, _, _, e, _, _, rfl, by rw [hrun, vx], comm_recv_got h1 hsz, Env.Le.refl e, ⟨_, rfl, by refine ⟨rfl, ?_⟩; simp [SE.ev, md], rfl, by rw [h0]; exact h2.1, trivial⟩, S, K⟩
    · rename_i cap hg
      obtain ⟨b, s, q, h1, h2⟩ := H.sim.chan hb hg
      have hbe : b = #[] := by
        cases hbl : b.toList with
        | nil => exact Array.toList_inj.1 (by simp [hbl])
        | cons y l => rw [hbl] at h2; exact h2.elim
      subst hbe
      exact .inr ⟨_, _, _, e, _, _, rfl, by rw [hrun, vx], comm_recv_none h1, Env.Le.refl e, ⟨_, rfl, by refine ⟨rfl, ?_⟩; simp [SE.ev, md], rfl, hz2, trivial⟩, H.sim, Keep.refl R W⟩
    · exact .inl trivial
  · exact .inl trivial
end
end Go.Sx
/-
  All operations together.
-/
namespace Go.Sx
open Go

variable {P : Program} {R : Nat → Prop} {e : Env} {g : G} {W : World} {asm : Asm} {t : Tr AV} {a : Act} {nt : Nat}

theorem map_some {α β : Type} {f : α → β} {o : Option α} {b : β} (h : o.map f = some b) : ∃ x, o = some x ∧ b = f x := by
  cases o with
  | none => cases h
  | some x => cases h; exact ⟨x, rfl, rfl⟩
theorem cond_none_some {α : Type} {c : Bool} {x : Option α} {y : α} (h : cond c none x = some y) : c = false ∧ x = some y := by
  cases c
  · exact ⟨rfl, h⟩
  · cases h
theorem cond_some_none {α : Type} {c : Bool} {x : Option α} {y : α} (h : cond c x none = some y) : c = true ∧ x = some y := by
  cases c
  · cases h
  · exact ⟨rfl, h⟩
theorem compOO_isSome {o : Option Operand} {x : Option XOpd} (h : compOO nt o = some x) : x.isSome = o.isSome := by
  cases o with
  | none => cases h; rfl
  | some o =>
    unfold compOO at h
    simp only at h
    split at h
    · cases h; rfl
    · cases h
theorem compOO_isNone {o : Option Operand} {x : Option XOpd} (h : compOO nt o = some x) : x.isNone = o.isNone := by
  have := compOO_isSome h
  cases o <;> cases x <;> simp_all
theorem bind_some {α β : Type} {o : Option α} {f : α → Option β} {b : β} (h : o.bind f = some b) : ∃ x, o = some x ∧ f x = some b := by
  cases o with
  | none => cases h
  | some x => exact ⟨x, rfl, h⟩
theorem beq_ff {a b : Nat} (h : Nat.beq a b = false) : a ≠ b := beq_f h

theorem op_sound (H : Here P R e g W asm t a nt) {o : Oper} {x : XOp} (ho : compOp P nt o = some x) : GoodC P R e g W ((execOp a.eval o).run P W) (evalOp asm x t g) := by
  cases hop : o.op <;> simp only [compOp, hop] at ho
  case move y =>
    obtain ⟨z, h1, rfl⟩ := map_some ho
    refine .inl ?_
    have := s_mv H h1
    simp only [execOp, hop]; exact this
  case assign y =>
    obtain ⟨z, h1, rfl⟩ := map_some ho
    refine .inl ?_
    have := s_mv H h1
    simp only [execOp, hop]; exact this
  case pick c p q =>
    split at ho
    · rename_i xc xp xq h1 h2 h3
      cases ho
      have := s_pick H h1 h2 h3
      exact .inl (by simp only [execOp, hop]; exact this)
    · cases ho
  case alloc ty =>
    split at ho
    · rename_i z h1
      cases ho
      have := s_new H h1
      exact .inl (by simp only [execOp, hop]; exact this)
    · cases ho
  case box ty y =>
    obtain ⟨z, h1, rfl⟩ := map_some ho
    have := s_box H (ty := ty) h1
    exact .inl (by simp only [execOp, hop]; exact this)
  case build ty ps =>
    split at ho
    · rename_i z hz
      split at ho
      · rename_i fs hu
        obtain ⟨h1, h2⟩ := cond_some_none ho
        obtain ⟨l, h3, rfl⟩ := map_some h2
        have := s_buildS H hz hu h1 h3
        exact .inl (by simp only [execOp, hop]; exact this)
      · rename_i n el hu
        split at ho
        · rename_i s hs
          obtain ⟨l, h3, rfl⟩ := map_some ho
          have := s_buildA H hz hu hs h3
          exact .inl (by simp only [execOp, hop]; exact this)
        · cases ho
      · cases ho
    · cases ho
  case buildSlice ty n ps =>
    split at ho
    · rename_i el hu
      split at ho
      · rename_i s z hs hz
        split at ho
        · rename_i l hl
          obtain ⟨h1, h2⟩ := cond_some_none ho
          cases h2
          simp only [Bool.and_eq_true, Bool.not_eq_true'] at h1
          have := s_buildSlice H hz hu hs hl (ble_le h1.1.1) (beq_f h1.1.2) (beq_t h1.2)
          exact .inl (by simp only [execOp, hop]; exact this)
        · cases ho
      · cases ho
    · cases ho
  case load ty y =>
    split at ho
    · rename_i n z hn hz
      cases ho
      have := s_load H hz hn
      exact .inl (by simp only [execOp, hop]; exact this)
    · cases ho
  case store ty p v =>
    split at ho
    · rename_i n z y hn hz hy
      cases ho
      have := s_store H hz hy hn
      exact .inl (by simp only [execOp, hop]; exact this)
    · cases ho
  case nilCheck y =>
    obtain ⟨z, h1, rfl⟩ := map_some ho
    exact .inl (s_nilCheck H hop h1)
  case binOp op ty y z rt =>
    split at ho
    · rename_i p q c h1 h2 h3
      cases ho
      have := s_bin H (op := op) h1 h2 h3
      exact .inl (by simp only [execOp, hop]; exact this)
    · cases ho
  case unOp op ty y =>
    split at ho
    · rename_i z hz
      cases op <;> simp only at ho
      case not => cases ho; exact .inl (by have hh := s_not H hz; simp only [execOp, hop]; exact hh)
      case neg => cases ho; exact .inl (by have hh := s_neg H hz; simp only [execOp, hop]; exact hh)
      case xor => cases ho; exact .inl (by have hh := s_cpl H hz; simp only [execOp, hop]; exact hh)
      all_goals cases ho
    · cases ho
  case convert s d y =>
    split at ho
    · rename_i z ks k h1 h2 h3
      cases ho
      exact .inl (by have hh := s_conv H h1 h2 h3; simp only [execOp, hop]; exact hh)
    · rename_i z el h1 h2 h3
      split at ho
      · rename_i n hn
        cases hb : Nat.beq n 0
        · rw [hb] at ho; cases ho
          exact .inl (by have hh := s_convP H h1 h2 h3 hn (beq_f hb); simp only [execOp, hop]; exact hh)
        · rw [hb] at ho; cases ho; exact .inl trivial
      · cases ho; exact .inl trivial
    · cases ho; exact .inl trivial
  case fieldAddr ty y f =>
    split at ho
    · rename_i fl z h1 h2
      split at ho
      · rename_i s hs
        obtain ⟨h3, h4⟩ := cond_none_some ho
        cases h4
        exact .inl (by have hh := s_fieldAddr H h2 h1 hs (beq_f h3); simp only [execOp, hop]; exact hh)
      · cases ho
    · cases ho
  case field ty y f =>
    split at ho
    · rename_i fl z h1 h2
      split at ho
      · rename_i n hn
        cases ho
        exact .inl (by have hh := s_field H h2 h1 hn; simp only [execOp, hop]; exact hh)
      · cases ho
    · cases ho
  case indexAddr ty y i =>
    split at ho
    · rename_i z zi h1 h2
      split at ho
      · rename_i n el hu
        split at ho
        · rename_i s hs
          cases ho
          exact .inl (by have hh := s_idxArr H h1 h2 hu hs; simp only [execOp, hop]; exact hh)
        · cases ho
      · rename_i el hu
        split at ho
        · rename_i s hs
          cases ho
          exact .inl (by have hh := s_idxSl H h1 h2 hu hs; simp only [execOp, hop]; exact hh)
        · cases ho
      · cases ho
    · cases ho
  case index ty y i =>
    split at ho
    · rename_i z zi h1 h2
      split at ho
      · rename_i n el hu
        split at ho
        · rename_i s n hs hn
          cases ho
          exact .inl (by have hh := s_index H h1 h2 hu hs hn; simp only [execOp, hop]; exact hh)
        · cases ho
      · cases ho
    · cases ho
  case slice ty y l h m =>
    split at ho
    · rename_i z zl zh zm h1 h2 h3 h4
      obtain ⟨hc, ho⟩ := cond_none_some ho
      split at ho
      · rename_i el hu
        obtain ⟨s, hs, rfl⟩ := map_some ho
        exact .inl (by have hh := s_slc H h1 h2 h3 h4 hu hs (by rw [← compOO_isSome h4, ← compOO_isNone h3]; exact hc); simp only [execOp, hop]; exact hh)
      · rename_i n el hu
        obtain ⟨s, hs, rfl⟩ := map_some ho
        exact .inl (by have hh := s_slArr H h1 h2 h3 h4 hu hs (by rw [← compOO_isSome h4, ← compOO_isNone h3]; exact hc); simp only [execOp, hop]; exact hh)
      · cases ho
    · cases ho
  case sliceToArrayPointer ty y =>
    split at ho
    · rename_i n el z hu h1
      cases ho
      exact .inl (by have hh := s_arrOf H h1 hu; simp only [execOp, hop]; exact hh)
    · cases ho
  case makeInterface ty y =>
    split at ho
    · cases ho
    · rename_i d z hne hu h1
      cases ho
      exact .inl (by have hh := s_mkIface H h1 hu (fun ms he => by subst he; exact hne ms rfl); simp only [execOp, hop]; exact hh)
    · cases ho
  case makeFunc f as bs =>
    cases f <;> simp only at ho
    case func f =>
      split at ho
      · rename_i p q h1 h2
        cases ho
        exact .inl (by have hh := s_mkFunc H (f := f) h1 h2; simp only [execOp, hop]; exact hh)
      · cases ho
    all_goals cases ho
  case makeMap ty r =>
    obtain ⟨h1, h2⟩ := cond_some_none ho
    cases h2
    have hr : r = none := by simpa using h1
    subst hr
    exact .inl (by have hh := s_mkMap H (ty := ty); simp only [execOp, hop, Option.map_none]; exact hh)
  case makeSlice ty l c =>
    split at ho
    · rename_i el xl xc hu h1 h2
      split at ho
      · rename_i i z hi hz
        obtain ⟨h3, h4⟩ := cond_some_none ho
        cases h4
        simp only [Bool.and_eq_true, Bool.not_eq_true'] at h3
        exact .inl (by have hh := s_mkSlice H hz hu hi h1 h2 (beq_f h3.1) (beq_t h3.2); simp only [execOp, hop]; exact hh)
      · cases ho
    · cases ho
  case makeChan ty s =>
    split at ho
    · rename_i dr el z hu h1
      split at ho
      · rename_i i hi
        obtain ⟨h3, h4⟩ := cond_some_none ho
        cases h4
        exact .inl (by have hh := s_mkChan H h1 hu hi (ble_le h3); simp only [execOp, hop]; exact hh)
      · cases ho
    · cases ho
  case lookup ty m k ok =>
    split at ho
    · rename_i kt el xm xk hu h1 h2
      split at ho
      · rename_i kd z hku hz
        cases ho
        exact .inl (by have hh := s_lookup H (ok := ok) h1 h2 hu hku hz; simp only [execOp, hop]; exact hh)
      · cases ho
    · cases ho
  case mapUpdate ty m k v =>
    split at ho
    · rename_i kt el xm xk xv hu h1 h2 h3
      split at ho
      · rename_i kd hku
        cases ho
        exact .inl (by have hh := s_insert H h1 h2 h3 hu hku; simp only [execOp, hop]; exact hh)
      · cases ho
    · cases ho
  case insert ty m k v =>
    split at ho
    · rename_i kt el xm xk xv hu h1 h2 h3
      split at ho
      · rename_i kd hku
        cases ho
        exact .inl (by have hh := s_insert H h1 h2 h3 hu hku; simp only [execOp, hop]; exact hh)
      · cases ho
    · cases ho
  case extract y i =>
    obtain ⟨z, h1, rfl⟩ := map_some ho
    exact .inl (by have hh := s_extract H (i := i) h1; simp only [execOp, hop]; exact hh)
  case call c =>
    split at ho
    · rename_i as ha
      split at ho
      · rename_i f hf
        split at ho
        · rename_i f'
          cases ho
          exact .inl (s_callF H hop hf ha)
        · obtain ⟨z, h1, rfl⟩ := map_some ho
          exact .inl (s_call H hop hf h1 ha)
      · rename_i r m hf
        obtain ⟨z, h1, rfl⟩ := map_some ho
        exact .inl (s_invoke H hop hf h1 ha)
      · rename_i b hb
        obtain ⟨consts, hrun⟩ : ∃ consts, (execOp a.eval o).run P W = (builtin b c.argTypes o.type consts (c.args.map a.eval)).run P W := by
          refine ⟨?_, ?_⟩
          rotate_left
          · simp only [execOp, hop, resolve, hb, Sem.run_bind, Sem.run_pure, Result.andThen, invoke]
            rfl
        rw [hrun]
        split at ho
        · rename_i x1
          obtain ⟨p, hp, h1⟩ := opds_one ha
          rw [hp]
          split at ho
          · rename_i n el hu
            obtain ⟨t0, h0, hu⟩ := bind_some hu
            obtain ⟨hn, h2⟩ := cond_some_none ho
            cases h2
            have hh := s_lenArr H (rt := o.type) (v := a.eval p) h0 hu (ble_le hn)
            exact .inl (by simp only [builtin, List.map_toArray, List.map_cons, List.map_nil]; exact hh)
          · rename_i el hu
            obtain ⟨t0, h0, hu⟩ := bind_some hu
            cases ho
            have hh := s_len H (rt := o.type) h1 h0 hu (.inl ⟨_, rfl, rfl⟩)
            exact .inl (by simp only [builtin, List.map_toArray, List.map_cons, List.map_nil]; exact hh)
          · rename_i k el hu
            obtain ⟨t0, h0, hu⟩ := bind_some hu
            cases ho
            have hh := s_len H (rt := o.type) h1 h0 hu (.inr (.inl ⟨_, _, rfl, rfl⟩))
            exact .inl (by simp only [builtin, List.map_toArray, List.map_cons, List.map_nil]; exact hh)
          · rename_i k el hu
            obtain ⟨t0, h0, hu⟩ := bind_some hu
            cases ho
            have hh := s_len H (rt := o.type) h1 h0 hu (.inr (.inr ⟨_, _, rfl, rfl⟩))
            exact .inl (by simp only [builtin, List.map_toArray, List.map_cons, List.map_nil]; exact hh)
          · cases ho
        · rename_i x1 x2
          obtain ⟨p, q, hp, h1, h2⟩ := opds_two ha
          rw [hp]
          split at ho
          · rename_i el el1 hu hu1
            obtain ⟨t0, h0, hu⟩ := bind_some hu
            obtain ⟨t1, h01, hu1⟩ := bind_some hu1
            split at ho
            · rename_i i z hi hz
              obtain ⟨h3, h4⟩ := cond_none_some ho
              cases h4
              simp only [Bool.or_eq_false_iff, Bool.not_eq_false'] at h3
              have hh := s_append H (rt := o.type) h1 h2 h0 h01 hu hu1 hi hz (beq_f h3.1.2) (beq_t h3.2) (beq_f h3.1.1)
              exact .inl (by simp only [builtin, List.map_toArray, List.map_cons, List.map_nil]; exact hh)
            · cases ho
          · cases ho
        · rename_i x1 x2
          obtain ⟨p, q, hp, h1, h2⟩ := opds_two ha
          rw [hp]
          cases ho
          have hh := s_min2 H (ats := c.argTypes) (rt := o.type) h1 h2
          exact .inl (by simp only [builtin, List.map_toArray, List.map_cons, List.map_nil]; exact hh)
        · rename_i x1 x2
          obtain ⟨p, q, hp, h1, h2⟩ := opds_two ha
          rw [hp]
          cases ho
          have hh := s_max2 H (ats := c.argTypes) (rt := o.type) h1 h2
          exact .inl (by simp only [builtin, List.map_toArray, List.map_cons, List.map_nil]; exact hh)
        · cases ho
    · cases ho
  case defer c =>
    split at ho
    · rename_i f as hf ha
      cases ho
      exact .inl (s_defer H hop hf ha)
    · cases ho
  case select cs bl =>
    obtain ⟨h1, h2⟩ := cond_none_some ho
    subst h1
    split at h2
    · rename_i c hc
      have hcs : cs = #[c] := Array.toList_inj.1 (by simp [hc])
      subst hcs
      split at h2
      · rename_i z hz
        split at h2
        · rename_i v hv
          split at h2
          · rename_i i hi
            split at h2
            · rename_i w hw
              obtain ⟨y, h3, rfl⟩ := map_some h2
              exact s_selSend H hop hz hv h3 hi (by rw [hw]; rfl)
            · cases h2
          · cases h2
        · rename_i hs
          obtain ⟨y, h3, rfl⟩ := map_some h2
          exact s_selRecv H hop hz hs h3
      · cases h2
    · cases h2
  all_goals cases ho
end Go.Sx
/-
  The functions without a body.
-/
namespace Go.Sx
open Go

def extF : XExt → Array Value → Sem Value
  | .addInt k => Extern.Atomic.update (Op.intArith .add) k true
  | .casInt k => Extern.Atomic.casT (.int k)
  | .loadInt k => Extern.Atomic.loadT (.int k)
  | .nothing => fun _ => pure (.tuple #[])
  | .markP => Extern.Race.marked .acquire

theorem next_empty : Extern.allNextRows.lookup "" = none := by kernel_rfl
theorem find_of {fn : Func} {n : String} {r : Array Value → Sem Value} (hn : fn.name = n) (h1 : Extern.allGenericRows.lookup n = none) (h2 : Extern.allTypedRows.lookup n = none) (h3 : Extern.allRows.lookup n = some r) :
    Extern.find fn = some r := by
  unfold Extern.find
  simp [hn, h1, h2, h3]
theorem next_of {fn : Func} {n : String} (hn : fn.name = n) (ho : fn.origin = "") (h1 : Extern.allNextRows.lookup n = none) : Extern.findNext fn = none := by
  unfold Extern.findNext
  simp [hn, ho, h1, next_empty]

theorem n1 : Extern.allNextRows.lookup "sync/atomic.AddInt64" = none := by kernel_rfl
theorem g1 : Extern.allGenericRows.lookup "sync/atomic.AddInt64" = none := by kernel_rfl
theorem t1 : Extern.allTypedRows.lookup "sync/atomic.AddInt64" = none := by kernel_rfl
theorem r1 : Extern.allRows.lookup "sync/atomic.AddInt64" = some (Extern.Atomic.update (Op.intArith .add) .i64 true) := by kernel_rfl
theorem n2 : Extern.allNextRows.lookup "sync/atomic.AddInt32" = none := by kernel_rfl
theorem g2 : Extern.allGenericRows.lookup "sync/atomic.AddInt32" = none := by kernel_rfl
theorem t2 : Extern.allTypedRows.lookup "sync/atomic.AddInt32" = none := by kernel_rfl
theorem r2 : Extern.allRows.lookup "sync/atomic.AddInt32" = some (Extern.Atomic.update (Op.intArith .add) .i32 true) := by kernel_rfl
theorem n3 : Extern.allNextRows.lookup "sync/atomic.CompareAndSwapInt32" = none := by kernel_rfl
theorem g3 : Extern.allGenericRows.lookup "sync/atomic.CompareAndSwapInt32" = none := by kernel_rfl
theorem t3 : Extern.allTypedRows.lookup "sync/atomic.CompareAndSwapInt32" = none := by kernel_rfl
theorem r3 : Extern.allRows.lookup "sync/atomic.CompareAndSwapInt32" = some (Extern.Atomic.casT (.int .i32)) := by kernel_rfl
theorem n4 : Extern.allNextRows.lookup "sync/atomic.LoadInt64" = none := by kernel_rfl
theorem g4 : Extern.allGenericRows.lookup "sync/atomic.LoadInt64" = none := by kernel_rfl
theorem t4 : Extern.allTypedRows.lookup "sync/atomic.LoadInt64" = none := by kernel_rfl
theorem r4 : Extern.allRows.lookup "sync/atomic.LoadInt64" = some (Extern.Atomic.loadT (.int .i64)) := by kernel_rfl
theorem n5 : Extern.allNextRows.lookup "internal/race.Disable" = none := by kernel_rfl
theorem g5 : Extern.allGenericRows.lookup "internal/race.Disable" = none := by kernel_rfl
theorem t5 : Extern.allTypedRows.lookup "internal/race.Disable" = none := by kernel_rfl
theorem r5 : Extern.allRows.lookup "internal/race.Disable" = some (fun _ => do mark .disable; pure Extern.Race.none_) := by kernel_rfl
theorem n6 : Extern.allNextRows.lookup "internal/race.Enable" = none := by kernel_rfl
theorem g6 : Extern.allGenericRows.lookup "internal/race.Enable" = none := by kernel_rfl
theorem t6 : Extern.allTypedRows.lookup "internal/race.Enable" = none := by kernel_rfl
theorem r6 : Extern.allRows.lookup "internal/race.Enable" = some (fun _ => do mark .enable; pure Extern.Race.none_) := by kernel_rfl

theorem n7 : Extern.allNextRows.lookup "internal/race.Acquire" = none := by kernel_rfl
theorem g7 : Extern.allGenericRows.lookup "internal/race.Acquire" = none := by kernel_rfl
theorem t7 : Extern.allTypedRows.lookup "internal/race.Acquire" = none := by kernel_rfl
theorem r7 : Extern.allRows.lookup "internal/race.Acquire" = some (Extern.Race.marked .acquire) := by kernel_rfl
theorem n8 : Extern.allNextRows.lookup "internal/race.ReleaseMerge" = none := by kernel_rfl
theorem g8 : Extern.allGenericRows.lookup "internal/race.ReleaseMerge" = none := by kernel_rfl
theorem t8 : Extern.allTypedRows.lookup "internal/race.ReleaseMerge" = none := by kernel_rfl
theorem r8 : Extern.allRows.lookup "internal/race.ReleaseMerge" = some (Extern.Race.marked .releaseMerge) := by kernel_rfl
/-- What the model does at such a function. -/
theorem ext_find {fn : Func} {x : XExt} (h : extOf fn.name = some x) (ho : fn.origin = "") :
    ∃ r, Extern.findNext fn = none ∧ Extern.find fn = some r ∧ (fn.name == "runtime.NumGoroutine") = false ∧ ∀ P W xs, (r xs).run P W = (extF x xs).run P W := by
  unfold extOf at h
  split at h
  · rename_i hn; have hn := eq_of_beq hn; cases h
    exact ⟨_, next_of hn ho n1, find_of hn g1 t1 r1, by rw [hn]; decide, fun _ _ _ => rfl⟩
  · split at h
    · rename_i hn; have hn := eq_of_beq hn; cases h
      exact ⟨_, next_of hn ho n2, find_of hn g2 t2 r2, by rw [hn]; decide, fun _ _ _ => rfl⟩
    · split at h
      · rename_i hn; have hn := eq_of_beq hn; cases h
        exact ⟨_, next_of hn ho n3, find_of hn g3 t3 r3, by rw [hn]; decide, fun _ _ _ => rfl⟩
      · split at h
        · rename_i hn; have hn := eq_of_beq hn; cases h
          exact ⟨_, next_of hn ho n4, find_of hn g4 t4 r4, by rw [hn]; decide, fun _ _ _ => rfl⟩
        · split at h
          · rename_i hn; cases h
            simp only [Bool.or_eq_true] at hn
            rcases hn with hn | hn
            · have hn := eq_of_beq hn
              exact ⟨_, next_of hn ho n5, find_of hn g5 t5 r5, by rw [hn]; decide, fun P W xs => by simp [extF, Extern.Race.none_, Result.andThen]⟩
            · have hn := eq_of_beq hn
              exact ⟨_, next_of hn ho n6, find_of hn g6 t6 r6, by rw [hn]; decide, fun P W xs => by simp [extF, Extern.Race.none_, Result.andThen]⟩
          · split at h
            · rename_i hn; cases h
              simp only [Bool.or_eq_true] at hn
              rcases hn with hn | hn
              · have hn := eq_of_beq hn
                exact ⟨_, next_of hn ho n7, find_of hn g7 t7 r7, by rw [hn]; decide, fun P W xs => rfl⟩
              · have hn := eq_of_beq hn
                refine ⟨_, next_of hn ho n8, find_of hn g8 t8 r8, by rw [hn]; decide, fun P W xs => ?_⟩
                simp [extF, Extern.Race.marked, Extern.Race.none_, Result.andThen]
            · cases h

variable {P : Program} {R : Nat → Prop} {e : Env} {g : G} {W : World}

theorem callFunc_ext {f : FuncId} {fn : Func} {x : XExt} {xs : Array Value} {v : Value} {W' : World} (hf : P.funcs[f]? = some fn) (hb : fn.body = none) (h : extOf fn.name = some x) (ho : fn.origin = "")
    (hr : (extF x xs).run P W = .ok v W') : (callFunc f xs).run P W = .ok (.value v) W' := by
  obtain ⟨r, h1, h2, h3, h4⟩ := ext_find h ho
  have h3' : ¬ fn.name = "runtime.NumGoroutine" := by simpa using h3
  simp [callFunc, hf, h3', hb, h1, h2, h4, hr, Result.andThen]

theorem store_atomic {ad : Addr} {x v0 : Value} {W' : World} (hc : W.cell? ad = some v0) (hx : x.oneCell' = true) (hs : (storeCells ad [x]).run P W = .ok () W') (m : Mode) : (store ad x m).run P W = .ok () W' := by
  have h0 : ad.add 0 = ad := by unfold Addr.add; split <;> simp_all
  have h1 := run_store P W ad x .plain hx
  have h2 := run_store P W ad x m hx
  simp only [storeCells, h0, Sem.run_bind, Sem.run_pure] at hs
  rw [h1] at hs
  rw [h2]
  simp only [hc] at hs ⊢
  split at hs
  · simp [Result.andThen] at hs
  · rename_i hf
    rw [if_neg hf]
    simpa [Result.andThen] using hs

theorem list2 {xs : Array Value} {a b : Value} (h : xs.toList = [a, b]) : xs = #[a, b] := Array.toList_inj.1 (by simp [h])
theorem vrs1 {a : AV} {xs : List Value} (h : VRs e [a] xs) : ∃ x, xs = [x] ∧ VR e a x := by
  cases xs with
  | nil => exact h.elim
  | cons x l => cases l with
    | nil => exact ⟨x, rfl, h.1⟩
    | cons y l => exact h.2.elim
theorem vrs2 {a b : AV} {xs : List Value} (h : VRs e [a, b] xs) : ∃ x y, xs = [x, y] ∧ VR e a x ∧ VR e b y := by
  cases xs with
  | nil => exact h.elim
  | cons x l => obtain ⟨y, rfl, h2⟩ := vrs1 h.2; exact ⟨x, y, rfl, h.1, h2⟩
theorem vrs3 {a b c : AV} {xs : List Value} (h : VRs e [a, b, c] xs) : ∃ x y z, xs = [x, y, z] ∧ VR e a x ∧ VR e b y ∧ VR e c z := by
  cases xs with
  | nil => exact h.elim
  | cons x l => obtain ⟨y, z, rfl, h2, h3⟩ := vrs2 h.2; exact ⟨x, y, z, rfl, h.1, h2, h3⟩
theorem frozen_no (S : Sim P R e g W) {b off c m : Nat} {v : AV} (hb : e.blk b = some (c, m)) (hl : loadAt g none b off = some v) : W.frozen? ⟨c, off, none⟩ = false ∧ (W.shape? c).isSome = true := by
  unfold loadAt at hl
  cases ho : hget g b with
  | cells cs ow tl =>
    obtain ⟨c', arr, el, h1, h2, h3, h4, h5⟩ := S.cells ho
    rw [hb] at h1; cases h1
    constructor
    · simp [World.frozen?, h3]
    · simp [World.shape?, h3]
  | _ => rw [ho] at hl; cases hl

theorem ext_sound (S : Sim P R e g W) {x : XExt} {as : List AV} {xs : Array Value} {v : AV} {g' : G} (hv : extV x as g = some (v, g')) (ha : VRs e as xs.toList) :
    ∃ y W', (extF x xs).run P W = .ok y W' ∧ VR e v y ∧ Sim P R e g' W' ∧ Keep R W W' := by
  cases x with
  | nothing => cases hv; exact ⟨_, W, rfl, ⟨#[], rfl, trivial⟩, S, Keep.refl R W⟩
  | markP =>
    simp only [extV] at hv
    split at hv
    · rename_i b off
      cases hv
      obtain ⟨x, hx, h1⟩ := vrs1 ha
      obtain ⟨c, m, hb, rfl⟩ := h1
      have : xs = #[.pointer (some ⟨c, off, none⟩)] := Array.toList_inj.1 (by simp [hx])
      subst this
      refine ⟨.tuple #[], W, ?_, ⟨#[], rfl, trivial⟩, S, Keep.refl R W⟩
      simp [extF, Extern.Race.marked, Extern.Race.at_, Extern.Race.none_, Result.andThen]
    · cases hv
  | loadInt k =>
    simp only [extV] at hv
    split at hv
    · rename_i b off
      split at hv
      · rename_i k' s hl
        obtain ⟨hk, hv⟩ := cond_some_none hv
        cases kindEq_eq hk
        cases hv
        obtain ⟨x, hx, h1⟩ := vrs1 ha
        obtain ⟨c, m, hb, rfl⟩ := h1
        obtain ⟨y, h2, h3⟩ := S.load1 hb hl
        obtain ⟨h4, h5⟩ := h3.int
        have : xs = #[.pointer (some ⟨c, off, none⟩)] := Array.toList_inj.1 (by simp [hx])
        subst this
        refine ⟨y, W, ?_, h3, S, Keep.refl R W⟩
        rw [h4] at h2 ⊢
        show ((do Extern.Atomic.read (.int k) (← asAddr (.pointer (some ⟨c, off, none⟩))) : Sem Value)).run P W = _
        simp [Extern.Atomic.read, asAddr, h2, Result.andThen]
      · cases hv
    · cases hv
  | addInt k =>
    simp only [extV] at hv
    split at hv
    · rename_i b off k1 d
      split at hv
      · rename_i k2 s hl
        obtain ⟨hk, hv2⟩ := cond_some_none hv
        clear hv
        simp only [Bool.and_eq_true] at hk
        cases kindEq_eq hk.1
        cases kindEq_eq hk.2
        split at hv2
        · rename_i g2 hst
          cases hv2
          obtain ⟨x, y, hx, h1, h2⟩ := vrs2 ha
          obtain ⟨c, m, hb, rfl⟩ := h1
          obtain ⟨h3, h4⟩ := h2.int
          subst h3
          obtain ⟨z, h5, h6⟩ := S.load1 hb hl
          obtain ⟨h7, h8⟩ := h6.int
          subst h7
          have hnew : VR e (.int k (mkBin .add k s d)) (.int k (toI k (opN .add k (s.ev e) (d.ev e)))) := by
            refine ⟨by rw [mkBin_ev], ?_⟩
            rw [mkBin_ev]; exact opN_lt _ _ h8 (fun _ => h4)
          obtain ⟨W', q1, q2, q3, q4⟩ := S.store (P := P) hb hst hnew
          have := store_atomic h5 rfl (by simpa [Value.cells] using q1) .atomic
          rw [list2 hx]
          refine ⟨_, W', ?_, hnew, q3, q4⟩
          show ((do
            let a ← asAddr (.pointer (some ⟨c, off, none⟩))
            let old ← Extern.Atomic.read (.int k) a
            let new ← Op.intArith .add k (← asInt old) (← asInt (.int k (toI k (d.ev e))))
            store a new .atomic
            pure (if true then new else old) : Sem Value)).run P W = _
          simp only [Extern.Atomic.read, asAddr, asInt, asIntOf, Sem.run_bind, Sem.run_pure, run_load, h5, Op.intArith, add_toI, Result.andThen, if_true]
          rw [show (s.ev e + d.ev e) % md k = opN .add k (s.ev e) (d.ev e) from rfl, this]
        · cases hv2
      · cases hv
    · cases hv
  | casInt k =>
    simp only [extV] at hv
    split at hv
    · rename_i b off k1 o k3 nw
      split at hv
      · rename_i k2 s hl
        obtain ⟨hk, hv2⟩ := cond_some_none hv
        clear hv
        simp only [Bool.and_eq_true] at hk
        cases kindEq_eq hk.1.1
        cases kindEq_eq hk.1.2
        cases kindEq_eq hk.2
        split at hv2
        · rename_i g2 hst
          obtain ⟨x, y, z, hx, h1, h2, h3⟩ := vrs3 ha
          obtain ⟨c, m, hb, rfl⟩ := h1
          obtain ⟨h4, h5⟩ := h2.int
          obtain ⟨h6, h7⟩ := h3.int
          subst h4
          obtain ⟨old, h8, h9⟩ := S.load1 hb hl
          obtain ⟨h10, h11⟩ := h9.int
          subst h10
          obtain ⟨hfz, hsh⟩ := frozen_no S hb hl
          have hxs : xs = #[.pointer (some ⟨c, off, none⟩), .int k (toI k o), z] := Array.toList_inj.1 (by simpa [SE.ev] using hx)
          subst hxs
          have htf : (Extern.Atomic.touchesFrozen ⟨c, off, none⟩).run P W = .ok false W := by
            simp [Extern.Atomic.touchesFrozen, viewAt, hsh, hfz, Result.andThen]
          have heq : (toI k s == toI k o) = Nat.beq s o := by
            cases hq : Nat.beq s o
            · have := beq_f hq
              simp only [beq_eq_false_iff_ne]
              exact fun hh => this (toI_inj k h11 h5 hh)
            · cases beq_t hq; simp
          simp only [SE.ev] at h8
          cases hq : Nat.beq s o
          · have hne : ¬ toI k s = toI k o := by simpa [hq] using heq
            rw [hq] at hv2; cases hv2
            refine ⟨.bool false, W, ?_, rfl, S, Keep.refl R W⟩
            show ((do
              let a ← asAddr (.pointer (some ⟨c, off, none⟩))
              if ← Extern.Atomic.touchesFrozen a then unsupported (.unsafePointer "a write to bytes that a string shares")
              let eq ← match Extern.Atomic.T.int k, ← Extern.Atomic.read (.int k) a, Value.int k (toI k o) with
                | _, .int _ x, .int _ y => pure (x == y)
                | .ptr, .pointer x, .pointer y => samePointer x y
                | .int _, .pointer (some _), .int _ 0 | .int _, .int _ 0, .pointer (some _) => pure false
                | .int _, .pointer (some _), _ | .int _, _, .pointer (some _) => unsupported .addressObserved
                | _, _, _ => stuck "atomic.CompareAndSwap: old is no T"
              if eq then store a z .atomic
              pure (.bool eq) : Sem Value)).run P W = _
            simp [Extern.Atomic.read, asAddr, htf, h8, hne, Result.andThen]
          · have hne : toI k s = toI k o := by simpa [hq] using heq
            rw [hq] at hv2; cases hv2
            obtain ⟨W', q1, q2, q3, q4⟩ := S.store (P := P) hb hst h3
            have hz1 : z.oneCell' = true := by rw [h6]; rfl
            have := store_atomic h8 hz1 (by rw [h6] at q1 ⊢; simpa [Value.cells] using q1) .atomic
            refine ⟨.bool true, W', ?_, rfl, q3, q4⟩
            show ((do
              let a ← asAddr (.pointer (some ⟨c, off, none⟩))
              if ← Extern.Atomic.touchesFrozen a then unsupported (.unsafePointer "a write to bytes that a string shares")
              let eq ← match Extern.Atomic.T.int k, ← Extern.Atomic.read (.int k) a, Value.int k (toI k o) with
                | _, .int _ x, .int _ y => pure (x == y)
                | .ptr, .pointer x, .pointer y => samePointer x y
                | .int _, .pointer (some _), .int _ 0 | .int _, .int _ 0, .pointer (some _) => pure false
                | .int _, .pointer (some _), _ | .int _, _, .pointer (some _) => unsupported .addressObserved
                | _, _, _ => stuck "atomic.CompareAndSwap: old is no T"
              if eq then store a z .atomic
              pure (.bool eq) : Sem Value)).run P W = _
            simp [Extern.Atomic.read, asAddr, htf, h8, hne, this, Result.andThen]
        · cases hv2
      · cases hv
    · cases hv
end Go.Sx
/-
  The machine's steps on a frame: of a function, or of a round.
-/
namespace Go.Sx
open Go

structure Ctx where
  fn : FuncId
  kind : CallKind
  rd : Option Nat
def Ctx.fr (c : Ctx) (a : Act) (todo : List Item) : Frame := { fn := c.fn, tmps := a.tmps, todo, defers := a.defers, mode := .run, kind := c.kind, roundOf := c.rd }

variable {P : Program} {c : Ctx} {a : Act} {k : List Item} {cs : List Frame} {W W' : World} {ops : Array Oper}

theorem Ctx.eval (c : Ctx) (a : Act) (todo : List Item) (x : Operand) : (c.fr a todo).eval x = a.eval x := by cases x <;> rfl
theorem Ctx.eval' (c : Ctx) (a : Act) (todo : List Item) : (c.fr a todo).eval = a.eval := funext (Ctx.eval c a todo)
theorem Ctx.finish (c : Ctx) (a : Act) (ops : Array Oper) (i : Nat) (rest : List Nat) (k : List Item) (v : Value) :
    (c.fr a (.inRegion ops (i :: rest) :: k)).finish v = c.fr (a.put ((ops[i]?).bind (·.dst)) v) (.inRegion ops rest :: k) := by
  cases h : (ops[i]?).bind (·.dst) <;> simp [Frame.finish, Ctx.fr, Act.put, h]

theorem t_skip : step P (lone (c.fr a (.code .skip :: k)) cs W) = .next (lone (c.fr a k) cs W) := step_lone_go (by simp [stepG, stepG.exec, Ctx.fr])
theorem t_inBlock {id : Nat} : step P (lone (c.fr a (.inBlock id :: k)) cs W) = .next (lone (c.fr a k) cs W) := step_lone_go (by simp [stepG, stepG.exec, Ctx.fr])
theorem t_seq {x y : Code} : step P (lone (c.fr a (.code (.seq x y) :: k)) cs W) = .next (lone (c.fr a (.code x :: .code y :: k)) cs W) := step_lone_go (by simp [stepG, stepG.exec, Ctx.fr])
theorem t_cond {x : Operand} {p q : Code} {b : Bool} (h : a.eval x = .bool b) : step P (lone (c.fr a (.code (.cond x p q) :: k)) cs W) = .next (lone (c.fr a (.code (cond b p q) :: k)) cs W) :=
  step_lone_go (by
    have := Ctx.eval c a (.code (.cond x p q) :: k) x
    simp only [Ctx.fr] at this
    cases b <;> simp [stepG, stepG.exec, Ctx.fr, this, h])
theorem t_block {id : Nat} {x : Code} : step P (lone (c.fr a (.code (.block id x) :: k)) cs W) = .next (lone (c.fr a (.code x :: .inBlock id :: k)) cs W) := step_lone_go (by simp [stepG, stepG.exec, Ctx.fr])
theorem t_loop {x : Code} : step P (lone (c.fr a (.code (.loop x) :: k)) cs W) = .next (lone (c.fr a (.code x :: .inLoop x :: k)) cs W) := step_lone_go (by simp [stepG, stepG.exec, Ctx.fr])
theorem t_inLoop {x : Code} : step P (lone (c.fr a (.inLoop x :: k)) cs W) = .next (lone (c.fr a (.code x :: .inLoop x :: k)) cs W) := step_lone_go (by simp [stepG, stepG.exec, Ctx.fr])
theorem t_exit {id : Nat} {k' : List Item} (h : exitTo id k = some k') : step P (lone (c.fr a (.code (.exit id) :: k)) cs W) = .next (lone (c.fr a k') cs W) := step_lone_go (by simp [stepG, stepG.exec, Ctx.fr, h])
theorem t_region {id : Nat} : step P (lone (c.fr a (.code (.region id ops false) :: k)) cs W) = .next (lone (c.fr a (.inRegion ops (List.range ops.size) :: k)) cs W) := step_lone_go (by simp [stepG, stepG.exec, Ctx.fr])
theorem t_draw {id : Nat} : step P (lone (c.fr a (.code (.region id ops true) :: k)) cs W) =
    .next (lone (c.fr a (.inRegion ops (Region.schedule (P.follows .mixedOrders) ops (W.tape W.drawn (.order c.fn id))) :: k)) cs W.drew) :=
  step_lone_go (by simp [stepG, stepG.exec, Ctx.fr, choose, Sem.run, Question.forced, Question.cut])
theorem t_regionEnd : step P (lone (c.fr a (.inRegion ops [] :: k)) cs W) = .next (lone (c.fr a k) cs W) := step_lone_go (by simp [stepG, stepG.exec, Ctx.fr])
theorem t_end (h : c.rd = none) : step P (lone (c.fr a []) cs W) = .next (lone { c.fr a [] with mode := .returning } cs W) := step_lone_go (by simp [stepG, stepG.exec, Ctx.fr, h])
theorem t_ret (h : c.rd = none) : step P (lone (c.fr a (.code .ret :: k)) cs W) = .next (lone { c.fr a (.code .ret :: k) with mode := .returning } cs W) := step_lone_go (by simp [stepG, stepG.exec, Ctx.fr, h])

theorem t_opSkip {i : Nat} {rest : List Nat} (h : ((ops[i]?).map (Region.wanted · (yielded ops a.tmps))).getD false = false) :
    step P (lone (c.fr a (.inRegion ops (i :: rest) :: k)) cs W) = .next (lone (c.fr (a.put ((ops[i]?).bind (·.dst)) _root_.Go.undef) (.inRegion ops rest :: k)) cs W) := by
  rw [← Ctx.finish]
  exact step_lone_go (by
    have h' := h
    simp only [Ctx.fr] at *
    simp [stepG, stepG.exec, h'])
theorem g_op {i : Nat} {rest : List Nat} {o : Oper} (ho : ops[i]? = some o) (hw : Region.wanted o (yielded ops a.tmps) = true) (hd : c.rd = none ∨ ∀ x, o.op ≠ .defer x) :
    stepG P true { frame := c.fr a (.inRegion ops (i :: rest) :: k), callers := cs, status := .running, dying := none } W =
      stepG.apply P true (c.fr a (.inRegion ops (i :: rest) :: k)) cs none (execOp a.eval o) W := by
  have he := Ctx.eval' c a (.inRegion ops (i :: rest) :: k)
  simp only [Ctx.fr] at he
  rcases hd with hd | hd
  · simp [stepG, stepG.exec, stepG.oper, Frame.oper?, Ctx.fr, ho, hw, he, hd] at he ⊢
    simp [he]
  · cases hr : c.rd with
    | none =>
      simp [stepG, stepG.exec, stepG.oper, Frame.oper?, Ctx.fr, ho, hw, he, hr] at he ⊢
      simp [he]
    | some l =>
      cases hop : o.op <;> first
        | (exact absurd hop (hd _))
        | (simp [stepG, stepG.exec, stepG.oper, Frame.oper?, Ctx.fr, ho, hw, he, hr, hop] at he ⊢
           simp [he])
theorem put_at {i : Nat} {o : Oper} (ho : ops[i]? = some o) : (ops[i]?).bind (·.dst) = o.dst := by rw [ho]; rfl

section
variable {i : Nat} {rest : List Nat} {o : Oper} (ho : ops[i]? = some o) (hw : Region.wanted o (yielded ops a.tmps) = true) (hd : c.rd = none ∨ ∀ x, o.op ≠ .defer x)
include ho hw hd
theorem t_value {v : Value} (hr : (execOp a.eval o).run P W = .ok (.value v) W') :
    step P (lone (c.fr a (.inRegion ops (i :: rest) :: k)) cs W) = .next (lone (c.fr (a.put o.dst v) (.inRegion ops rest :: k)) cs W') := by
  refine step_lone_go ?_
  rw [g_op ho hw hd, ← put_at ho, ← Ctx.finish]
  simp [stepG.apply, hr]
theorem t_skipped (hr : (execOp a.eval o).run P W = .ok .skip W') :
    step P (lone (c.fr a (.inRegion ops (i :: rest) :: k)) cs W) = .next (lone (c.fr (a.put o.dst _root_.Go.undef) (.inRegion ops rest :: k)) cs W') := by
  refine step_lone_go ?_
  rw [g_op ho hw hd, ← put_at ho, ← Ctx.finish]
  simp [stepG.apply, hr]
theorem t_defer {d : Deferred} (hr : (execOp a.eval o).run P W = .ok (.defer d) W') :
    step P (lone (c.fr a (.inRegion ops (i :: rest) :: k)) cs W) = .next (lone (c.fr ({ a with defers := d :: a.defers }.put o.dst _root_.Go.undef) (.inRegion ops rest :: k)) cs W') := by
  refine step_lone_go ?_
  rw [g_op ho hw hd, ← put_at ho, ← Ctx.finish]
  simp only [stepG.apply, Sem.runT_eq, hr, GStep.bare_after]
  rfl
theorem t_enter {f : FuncId} {xs : Array Value} (hr : (execOp a.eval o).run P W = .ok (.enter f xs) W') :
    step P (lone (c.fr a (.inRegion ops (i :: rest) :: k)) cs W) = .next (lone (Frame.enter P f xs .normal) (c.fr a (.inRegion ops (i :: rest) :: k) :: cs) W') := by
  refine step_lone_go ?_
  rw [g_op ho hw hd]
  simp [stepG.apply, hr, Ctx.fr]
theorem t_round {l f : Nat} {tmps : Array Value} {asg body : Code} (hr : (execOp a.eval o).run P W = .ok (.round l f tmps asg body) W') :
    step P (lone (c.fr a (.inRegion ops (i :: rest) :: k)) cs W) = .next (lone (Frame.round l f tmps asg body .normal) (c.fr a (.inRegion ops (i :: rest) :: k) :: cs) W') := by
  refine step_lone_go ?_
  rw [g_op ho hw hd]
  simp [stepG.apply, hr, Ctx.fr]
theorem t_comm {cases : Array CommCase} {x : Value} (hr : (execOp a.eval o).run P W = .ok (.comm cases false .select) W) (hc : CommTo P W cases x W') :
    step P (lone (c.fr a (.inRegion ops (i :: rest) :: k)) cs W) = .next (lone (c.fr (a.put o.dst x) (.inRegion ops rest :: k)) cs W') := by
  rw [← put_at ho, ← Ctx.finish]
  refine hc _ _ ?_ ?_
  rotate_left
  · rw [g_op ho hw hd]
    simp only [stepG.apply, Sem.runT_eq, hr, GStep.after]
    rfl
end

/-! ### A round's frame -/
theorem round_frame (l f : Nat) (tmps : Array Value) (asg body : Code) : Frame.round l f tmps asg body .normal = (⟨f, .normal, some l⟩ : Ctx).fr ⟨tmps, []⟩ [.code asg, .beginRound, .code body] := rfl
theorem enter_frame {f : FuncId} {fn : Func} {b : Code} (hf : P.funcs[f]? = some fn) (hb : fn.body = some b) (xs : Array Value) (kind : CallKind) :
    Frame.enter P f xs kind = (⟨f, kind, none⟩ : Ctx).fr ⟨xs ++ Array.replicate (fn.ntmps - xs.size) _root_.Go.undef, []⟩ [.code b] := by
  simp [Frame.enter, Ctx.fr, hf, hb]
theorem t_begin {l : Nat} (hl : c.rd = some l) {r : Loop} (hr : W.heap[l]? = some (.loop r)) (hs : r.state = .ready) :
    step P (lone (c.fr a (.beginRound :: k)) cs W) = .next (lone (c.fr a k) cs { W with heap := W.heap.setIfInBounds l (.loop { r with state := .busy }) }) := by
  have hrun : ((do Instr.beginRound l; pure .skip : Sem Next)).run P W = .ok .skip { W with heap := W.heap.setIfInBounds l (.loop { r with state := .busy }) } := by
    simp [Instr.beginRound, Instr.getLoop, getObj_run hr (fun _ _ _ h => by cases h), setObj_run hr (fun _ _ _ h => by cases h), hs, Result.andThen]
  refine step_lone_go ?_
  simp only [stepG, stepG.exec, Ctx.fr, hl, Option.elim, stepG.apply, Sem.runT_eq, hrun, GStep.bare_after]
  rfl
/-- A round's end: how it was left is noted; the value goes to who yielded. -/
theorem t_endRound {l : Nat} (hl : c.rd = some l) (hk : c.kind = .normal) {r : Loop} (hr : W.heap[l]? = some (.loop r)) {caller : Frame} {todo : List Item} {jump : Option Code}
    (ht : (todo = [] ∧ jump = none) ∨ (∃ k', todo = .code .ret :: k' ∧ jump = some .ret) ∨ (∃ id k', todo = .code (.exit id) :: k' ∧ exitTo id k' = none ∧ jump = some (.exit id))) :
    step P (lone (c.fr a todo) (caller :: cs) W) = .next (lone (caller.finish (.bool jump.isNone)) cs
      { W with heap := W.heap.setIfInBounds l (.loop { r with state := if jump.isNone then .ready else .done, pending := jump }) }) := by
  have hrun : (Instr.endRound l jump).run P W = .ok (.bool jump.isNone) { W with heap := W.heap.setIfInBounds l (.loop { r with state := if jump.isNone then .ready else .done, pending := jump }) } := by
    simp [Instr.endRound, Instr.getLoop, getObj_run hr (fun _ _ _ h => by cases h), setObj_run hr (fun _ _ _ h => by cases h), Result.andThen]
  refine step_lone_go ?_
  rcases ht with ⟨rfl, rfl⟩ | ⟨k', rfl, rfl⟩ | ⟨id, k', rfl, he, rfl⟩
  · simp only [stepG, stepG.exec, Ctx.fr, hl, Sem.runT_eq, hrun, GStep.bare_after, doReturn, hk]; rfl
  · simp only [stepG, stepG.exec, Ctx.fr, hl, Sem.runT_eq, hrun, GStep.bare_after, doReturn, hk]; rfl
  · simp only [stepG, stepG.exec, Ctx.fr, hl, he, Option.elim, Sem.runT_eq, hrun, GStep.bare_after, doReturn, hk]; rfl
end Go.Sx
/-
  What soundness of the evaluator is; one operation; regions that leave no order open.
-/
namespace Go.Sx
open Go

def AsmOK (e : Env) (asm : Asm) : Prop := ∀ p ∈ asm, p.1.ev e = p.2
theorem AsmOK.le {e e' : Env} {asm : Asm} (h : AsmOK e asm) (l : e.Lw e') : AsmOK e' asm := fun p hp => by rw [SB.ev_le l]; exact h p hp
abbrev DRs (e : Env) (d : List ADef) (D : List Deferred) : Prop := All2 (DR e) d D
theorem DRs.le {e e' : Env} (l : e.Lw e') {d : List ADef} {D : List Deferred} (h : DRs e d D) : DRs e' d D := by
  induction h with
  | nil => exact .nil
  | cons h _ ih => exact .cons (h.le l) ih

/-- A call comes to so much. -/
def CallDone (P : Program) (f : FuncId) (xs : Array Value) (W : World) (x : Value) (W' : World) : Prop :=
  (callFunc f xs).run P W = .ok (.value x) W' ∨
  ((callFunc f xs).run P W = .ok (.enter f xs) W ∧ ∀ kind cs, (kind = .normal ∨ kind = .deferred) → ∃ fr, Steps P (lone (Frame.enter P f xs kind) cs W) (lone fr cs W') ∧ fr.fn = f ∧ fr.kind = kind ∧ fr.mode = .returning ∧
    fr.defers = [] ∧ ∃ fn, P.funcs[f]? = some fn ∧ (results fn fr.tmps).run P W' = .ok x W')
def RoundDone (P : Program) (c : Nat) (xs : Array Value) (W : World) (x : Value) (W' : World) : Prop :=
  ∃ fn tmps asg body, (Instr.yield c xs).run P W = .ok (.round c fn tmps asg body) W ∧
    ∀ caller cs, Steps P (lone (Frame.round c fn tmps asg body .normal) (caller :: cs) W) (lone (caller.finish x) cs W')
def Ctx.as (c : Ctx) (κ : CallKind) : Ctx := ⟨c.fn, κ, c.rd⟩
/-- Code comes to so much. -/
def ArrC (P : Program) (c : Ctx) (code : Code) (a : Act) (W : World) (ex : Ex) (a' : Act) (W' : World) : Prop :=
  match ex with
  | .normal => ∀ κ k cs, Steps P (lone ((c.as κ).fr a (.code code :: k)) cs W) (lone ((c.as κ).fr a' k) cs W')
  | .exit id => ∀ κ k cs, ∃ k', exitTo id k' = exitTo id k ∧ Steps P (lone ((c.as κ).fr a (.code code :: k)) cs W) (lone ((c.as κ).fr a' (.code (.exit id) :: k')) cs W')
  | .ret => ∀ κ k cs, ∃ k', Steps P (lone ((c.as κ).fr a (.code code :: k)) cs W) (lone ((c.as κ).fr a' (.code .ret :: k')) cs W')

structure Snd (P : Program) (asm : Asm) (rc : Cmd → Out) : Prop where
  call : ∀ {f as g v g'}, rc (.call f as g) = .val v g' → ∀ {R e W} {xs : Array Value}, AsmOK e asm → Sim P R e g W → VRs e as xs.toList →
    ∃ e' x W', e.Le e' ∧ VR e' v x ∧ Sim P R e' g' W' ∧ Keep R W W' ∧ CallDone P f xs W x W'
  round : ∀ {l as g v g'}, rc (.round l as g) = .val v g' → ∀ {R e W} {xs : Array Value} {c n}, AsmOK e asm → Sim P R e g W → e.blk l = some (c, n) → VRs e as xs.toList →
    ∃ e' x W', e.Le e' ∧ VR e' v x ∧ Sim P R e' g' W' ∧ Keep R W W' ∧ RoundDone P c xs W x W'
  code : ∀ {cd fn rd t d g ex t' d' g'}, rc (.code cd fn rd t d g) = .code ex t' d' g' → (d' = [] → d = []) ∧
    ∀ {R e W} {c : Ctx} {nt} {code : Code} {a : Act}, compC P nt code = some cd → c.fn = fn → rd.isNone = c.rd.isNone → (rd = none ∨ d' = []) → Here P R e g W asm t a nt → DRs e d a.defers →
    ∃ e' a' W', e.Le e' ∧ Here P R e' g' W' asm t' a' nt ∧ Keep R W W' ∧ DRs e' d' a'.defers ∧ ArrC P c code a W ex a' W'
  defs : ∀ {d g v g'}, rc (.defs d g) = .val v g' → ∀ {R e W} {D : List Deferred}, AsmOK e asm → Sim P R e g W → DRs e d D →
    ∃ e' W', e.Le e' ∧ Sim P R e' g' W' ∧ Keep R W W' ∧ ∀ (fr : Frame) cs, fr.mode = .returning → fr.defers = D → Steps P (lone fr cs W) (lone { fr with defers := [] } cs W')

variable {P : Program} {R : Nat → Prop} {e : Env} {g : G} {W : World} {asm : Asm} {t : Tr AV} {a : Act} {nt : Nat} {rc : Cmd → Out}

/-- What an operation's answer comes to. -/
def OneR (rc : Cmd → Out) (r : OpR) (d : List ADef) (g0 : G) (v : AV) (d1 : List ADef) (g1 : G) : Prop :=
  match r with
  | .fail _ => False
  | .val x g => v = x ∧ d1 = d ∧ g1 = g
  | .skip g => v = undef ∧ d1 = d ∧ g1 = g
  | .defer y => v = undef ∧ d1 = y :: d ∧ g1 = g0
  | .enter f as g => rc (.call f as g) = .val v g1 ∧ d1 = d
  | .round l as g => rc (.round l as g) = .val v g1 ∧ d1 = d
noncomputable def putO (t : Tr AV) (p : Option (List Bool)) (v : AV) : Tr AV := match p with | some p => putP t p v | none => t
theorem opK_inv {p : Option (List Bool)} {d : List ADef} {r : OpR} {k : Tr AV → List ADef → G → Out} {g0 : G} {ex t' d' g'} (h : opK rc t p d r k g0 = .code ex t' d' g') :
    ∃ v d1 g1, OneR rc r d g0 v d1 g1 ∧ k (putO t p v) d1 g1 = .code ex t' d' g' := by
  unfold opK at h
  cases r with
  | fail n => cases h
  | val v g => exact ⟨v, d, g, ⟨rfl, rfl, rfl⟩, by cases p <;> exact h⟩
  | skip g => exact ⟨undef, d, g, ⟨rfl, rfl, rfl⟩, by cases p <;> exact h⟩
  | defer y => exact ⟨undef, y :: d, g0, ⟨rfl, rfl, rfl⟩, by cases p <;> exact h⟩
  | enter f as g =>
    simp only at h
    split at h
    · rename_i v g1 hc
      exact ⟨v, d, g1, ⟨hc, rfl⟩, by cases p <;> exact h⟩
    · cases h
    · cases h
  | round l as g =>
    simp only at h
    split at h
    · rename_i v g1 hc
      exact ⟨v, d, g1, ⟨hc, rfl⟩, by cases p <;> exact h⟩
    · cases h
    · cases h

/-- The frame once the operation has come to its value. -/
def after (a : Act) (D : List Deferred) (dst : Option Tmp) (v : Value) : Act := ({ a with defers := D } : Act).put dst v
theorem after_defers (a : Act) (D : List Deferred) (dst : Option Tmp) (v : Value) : (after a D dst v).defers = D := by cases dst <;> rfl
theorem after_same (a : Act) (dst : Option Tmp) (v : Value) : after a a.defers dst v = a.put dst v := rfl

theorem one_sound (S : Snd P asm rc) (H : Here P R e g W asm t a nt) {d : List ADef} (hd : DRs e d a.defers) {o : Oper} {x : XOp} (ho : compOp P nt o = some x) {v : AV} {d1 : List ADef} {g1 : G}
    (h1 : OneR rc (evalOp asm x t g) d g v d1 g1) :
    (d1 = [] → d = []) ∧ ∃ e' y W' D, e.Le e' ∧ VR e' v y ∧ Sim P R e' g1 W' ∧ Keep R W W' ∧ DRs e' d1 D ∧
      ∀ (c : Ctx) (ops : Array Oper) i rest k cs, ops[i]? = some o → Region.wanted o (yielded ops a.tmps) = true → (c.rd = none ∨ d1 = []) →
        Steps P (lone (c.fr a (.inRegion ops (i :: rest) :: k)) cs W) (lone (c.fr (after a D o.dst y) (.inRegion ops rest :: k)) cs W') := by
  have hs := op_sound H ho
  have rdD : ∀ {c : Ctx}, (c.rd = none ∨ d1 = []) → (∀ y, evalOp asm x t g ≠ .defer y) → c.rd = none ∨ ∀ z, o.op ≠ .defer z := by
    intro c hc hn
    rcases hc with hc | hc
    · exact .inl hc
    · refine .inr fun z hz => ?_
      have ho' := ho
      simp only [compOp, hz] at ho'
      split at ho'
      · rename_i f as _ _
        cases ho'
        exact hn _ rfl
      · cases ho'
  cases hr : evalOp asm x t g with
  | fail n => rw [hr] at h1; exact h1.elim
  | val z g' =>
    rw [hr] at h1 hs
    obtain ⟨rfl, rfl, rfl⟩ := h1
    have nd : ∀ y, evalOp asm x t g ≠ .defer y := fun y hy => by rw [hr] at hy; cases hy
    rcases hs with hs | ⟨v', g', cases, e', y, W', hv, hres, hcm, hle, hvr, hsim, hk⟩
    · obtain ⟨e', y, W', hres, hle, hvr, hsim, hk⟩ := hs
      exact ⟨id, e', y, W', a.defers, hle, hvr, hsim, hk, hd.le hle, fun c ops i rest k cs h2 h3 h4 => .one (t_value h2 h3 (rdD h4 nd) hres)⟩
    · cases hv
      exact ⟨id, e', y, W', a.defers, hle, hvr, hsim, hk, hd.le hle, fun c ops i rest k cs h2 h3 h4 => .one (t_comm h2 h3 (rdD h4 nd) hres hcm)⟩
  | skip g' =>
    rw [hr] at h1 hs
    obtain ⟨rfl, rfl, rfl⟩ := h1
    have nd : ∀ y, evalOp asm x t g ≠ .defer y := fun y hy => by rw [hr] at hy; cases hy
    rcases hs with hs | ⟨v', g', cases, e', y, W', hv, _⟩
    · obtain ⟨e', W', hres, hle, hsim, hk⟩ := hs
      exact ⟨id, e', _root_.Go.undef, W', a.defers, hle, ⟨#[], rfl, trivial⟩, hsim, hk, hd.le hle, fun c ops i rest k cs h2 h3 h4 => .one (t_skipped h2 h3 (rdD h4 nd) hres)⟩
    · cases hv
  | defer y =>
    rw [hr] at h1 hs
    obtain ⟨rfl, rfl, rfl⟩ := h1
    rcases hs with hs | ⟨v', g', cases, e', y, W', hv, _⟩
    · obtain ⟨D, hD, hres⟩ := hs
      refine ⟨(fun h => by cases h), e, _root_.Go.undef, W, D :: a.defers, Env.Le.refl e, ⟨#[], rfl, trivial⟩, H.sim, Keep.refl R W, .cons hD hd, fun c ops i rest k cs h2 h3 h4 => ?_⟩
      have hc : c.rd = none := by rcases h4 with h | h; exact h; cases h
      exact .one (t_defer h2 h3 (.inl hc) hres)
    · cases hv
  | enter f as g' =>
    rw [hr] at h1 hs
    obtain ⟨hcall, rfl⟩ := h1
    have nd : ∀ y, evalOp asm x t g ≠ .defer y := fun y hy => by rw [hr] at hy; cases hy
    rcases hs with hs | ⟨v', g', cases, e', y, W', hv, _⟩
    · obtain ⟨rfl, xs, hxs, hres⟩ := hs
      obtain ⟨e', y, W', hle, hvr, hsim, hk, hdone⟩ := S.call hcall H.asm H.sim hxs
      refine ⟨id, e', y, W', a.defers, hle, hvr, hsim, hk, hd.le hle, fun c ops i rest k cs h2 h3 h4 => ?_⟩
      rcases hdone with hdone | ⟨he, hrun⟩
      · exact .one (t_value h2 h3 (rdD h4 nd) (hres.trans hdone))
      · obtain ⟨fr, hst, hfn, hkd, hmode, hdef, fn, hf, hresult⟩ := hrun .normal (c.fr a (.inRegion ops (i :: rest) :: k) :: cs) (.inl rfl)
        refine .head (t_enter h2 h3 (rdD h4 nd) (hres.trans he)) (hst.trans (.one ?_))
        have hl : fr.leaving P W' (.returned y) := ⟨hmode, hdef, hkd, fn, by rw [hfn]; exact hf, hresult⟩
        rw [step_leave_returned hl, Ctx.finish, put_at h2]
        rfl
    · cases hv
  | round l as g' =>
    rw [hr] at h1 hs
    obtain ⟨hcall, rfl⟩ := h1
    have nd : ∀ y, evalOp asm x t g ≠ .defer y := fun y hy => by rw [hr] at hy; cases hy
    rcases hs with hs | ⟨v', g', cases, e', y, W', hv, _⟩
    · obtain ⟨rfl, cc, n, xs, hb, hxs, hres⟩ := hs
      obtain ⟨e', y, W', hle, hvr, hsim, hk, fn, tmps, asg, body, hy, hrun⟩ := S.round hcall H.asm H.sim hb hxs
      refine ⟨id, e', y, W', a.defers, hle, hvr, hsim, hk, hd.le hle, fun c ops i rest k cs h2 h3 h4 => ?_⟩
      refine .head (t_round h2 h3 (rdD h4 nd) (hres.trans hy)) ?_
      have := hrun (c.fr a (.inRegion ops (i :: rest) :: k)) cs
      rw [Ctx.finish, put_at h2] at this
      exact this
    · cases hv

/-! ### Guards -/
theorem wanted_sound (H : Here P R e g W asm t a nt) {ops : Array Oper} {o : Oper} {j q : Nat} {w b : Bool} (hg : o.guard = some (j, w)) (hq : (ops.toList[j]?).bind (·.dst) = some q) (hn : q < nt)
    (hw : wantedV (t.getK .any (pathOf q)) w = some b) : Region.wanted o (yielded ops a.tmps) = b := by
  have hv := H.tr q (Nat.lt_of_lt_of_le hn H.nt)
  have hq' : (ops[j]?).bind (·.dst) = some q := by simpa using hq
  have hlt : q < a.tmps.size := Nat.lt_of_lt_of_le hn H.nt
  have hy : yielded ops a.tmps j = match a.tmps.getD q _root_.Go.undef with | .bool b => some b | _ => none := by
    unfold yielded
    rw [hq']
    simp only [Option.bind_some, Array.getElem?_eq_getElem hlt]
    have hgd : a.tmps.getD q _root_.Go.undef = a.tmps[q] := by simp [Array.getD, hlt]
    rw [hgd]
    cases a.tmps[q] <;> rfl
  unfold Region.wanted
  rw [hg]
  simp only
  rw [hy]
  unfold wantedV at hw
  split at hw
  · rename_i bb hb
    rw [hb] at hv
    rw [hv.boolv]
    cases hw
    simp only [SB.ev]
    cases bb <;> cases w <;> rfl
  · rename_i vs hb
    rw [hb] at hv
    obtain ⟨xs, hx, _⟩ := hv
    rw [hx]
    cases hw
    rfl
  · cases hw

/-- The operation that stands at i in a region. -/
def OpAt (P : Program) (nt : Nat) (ops : Array Oper) (i : Nat) (x : XOper) : Prop := ∃ o, ops[i]? = some o ∧ compOper P nt ops.toList o = some x

theorem dstK_some {dst : Option Nat} {f : Nat → XOper} {x y : XOper} (h : dstK nt dst f x = some y) : (∃ d, dst = some d ∧ d < nt ∧ y = f d) ∨ (dst = none ∧ y = x) := by
  unfold dstK at h
  cases dst with
  | none => cases h; exact .inr ⟨rfl, rfl⟩
  | some d =>
    simp only at h
    cases hb : Nat.blt d nt
    · rw [hb] at h; cases h
    · rw [hb] at h; cases h; exact .inl ⟨d, rfl, blt_lt hb, rfl⟩

/-- The temporaries once an operation has come to its value. -/
theorem TR.after (h : TR e t a.tmps) {v : AV} {y : Value} (hv : VR e v y) (D : List Deferred) (dst : Option Tmp) : TR e (putO t (dst.map pathOf) v) (after a D dst y).tmps := by
  cases dst with
  | none => exact h
  | some d => exact h.put hv d
theorem after_size (a : Act) (D : List Deferred) (dst : Option Tmp) (y : Value) : (after a D dst y).tmps.size = a.tmps.size := by cases dst <;> simp [Sx.after, Act.put]

/-- One operation of a region, wanted or not. -/
theorem stepOp_sound (S : Snd P asm rc) {ops : Array Oper} {i : Nat} {x : XOper} (hx : OpAt P nt ops i x) {d : List ADef} {k : Tr AV → List ADef → G → Out} {ex t' d' g'}
    (h : stepOp asm rc x t d g k = .code ex t' d' g') :
    ∃ t1 d1 g1, k t1 d1 g1 = .code ex t' d' g' ∧
      ∀ {R e W a}, Here P R e g W asm t a nt → DRs e d a.defers → (d1 = [] → d = []) ∧ ∃ e' a' W', e.Le e' ∧ Here P R e' g1 W' asm t1 a' nt ∧ Keep R W W' ∧ DRs e' d1 a'.defers ∧
        ∀ (c : Ctx) rest k cs, (c.rd = none ∨ d1 = []) → Steps P (lone (c.fr a (.inRegion ops (i :: rest) :: k)) cs W) (lone (c.fr a' (.inRegion ops rest :: k)) cs W') := by
  obtain ⟨o, ho, hc⟩ := hx
  unfold compOper at hc
  cases hop : compOp P nt o with
  | none => rw [hop] at hc; cases hc
  | some z =>
    rw [hop] at hc
    simp only at hc
    -- what is done where it is wanted
    have main : ∀ {v d1 g1}, OneR rc (evalOp asm z t g) d g v d1 g1 → (∀ {R e W a}, Here P R e g W asm t a nt → Region.wanted o (yielded ops a.tmps) = true) → ∀ {R e W a}, Here P R e g W asm t a nt → DRs e d a.defers →
        (d1 = [] → d = []) ∧ ∃ e' a' W', e.Le e' ∧ Here P R e' g1 W' asm (putO t (o.dst.map pathOf) v) a' nt ∧ Keep R W W' ∧ DRs e' d1 a'.defers ∧
        ∀ (c : Ctx) rest k cs, (c.rd = none ∨ d1 = []) → Steps P (lone (c.fr a (.inRegion ops (i :: rest) :: k)) cs W) (lone (c.fr a' (.inRegion ops rest :: k)) cs W') := by
      intro v d1 g1 h1 hw R e W a H hd
      obtain ⟨q1, e', y, W', D, q2, q3, q4, q5, q6, q7⟩ := one_sound S H hd hop h1
      refine ⟨q1, e', after a D o.dst y, W', q2, ⟨q4, TR.after (H.tr.le q2) q3 D o.dst, by rw [after_size]; exact H.nt, AsmOK.le H.asm q2⟩, q5, by rw [after_defers]; exact q6, fun c rest k cs hcc => q7 c ops i rest k cs ho (hw H) hcc⟩
    have skip : ∀ {t1}, t1 = putO t (o.dst.map pathOf) undef → (∀ {R e W a}, Here P R e g W asm t a nt → Region.wanted o (yielded ops a.tmps) = false) → ∀ {R e W a}, Here P R e g W asm t a nt → DRs e d a.defers →
        (d = [] → d = []) ∧ ∃ e' a' W', e.Le e' ∧ Here P R e' g W' asm t1 a' nt ∧ Keep R W W' ∧ DRs e' d a'.defers ∧
        ∀ (c : Ctx) rest k cs, (c.rd = none ∨ d = []) → Steps P (lone (c.fr a (.inRegion ops (i :: rest) :: k)) cs W) (lone (c.fr a' (.inRegion ops rest :: k)) cs W') := by
      intro t1 ht hw R e W a H hd
      refine ⟨id, e, after a a.defers o.dst _root_.Go.undef, W, Env.Le.refl e, ⟨H.sim, by rw [ht]; exact TR.after H.tr (v := undef) (y := _root_.Go.undef) (show VR e undef _root_.Go.undef from ⟨#[], rfl, trivial⟩) a.defers o.dst, by rw [after_size]; exact H.nt, H.asm⟩, Keep.refl R W, by rw [after_defers]; exact hd, fun c rest k cs _ => .one ?_⟩
      have := t_opSkip (P := P) (c := c) (a := a) (k := k) (cs := cs) (W := W) (ops := ops) (i := i) (rest := rest) (by rw [ho]; simpa using hw H)
      rw [put_at ho] at this
      exact this
    cases hgd : o.guard with
    | none =>
      rw [hgd] at hc
      have hw : ∀ {R e W a}, Here P R e g W asm t a nt → Region.wanted o (yielded ops a.tmps) = true := fun _ => by unfold Region.wanted; rw [hgd]
      rcases dstK_some hc with ⟨q, hq, _, rfl⟩ | ⟨hq, rfl⟩
      · obtain ⟨v, d1, g1, h1, h2⟩ := opK_inv (show opK rc t (some (pathOf q)) d (evalOp asm z t g) k g = _ from h)
        refine ⟨_, d1, g1, h2, fun H hd => ?_⟩
        have := main h1 hw H hd
        rw [hq] at this
        exact this
      · obtain ⟨v, d1, g1, h1, h2⟩ := opK_inv (show opK rc t none d (evalOp asm z t g) k g = _ from h)
        refine ⟨_, d1, g1, h2, fun H hd => ?_⟩
        have := main h1 hw H hd
        rw [hq] at this
        exact this
    | some jw =>
      obtain ⟨j, w⟩ := jw
      rw [hgd] at hc
      simp only at hc
      cases hdst : (ops.toList[j]?).bind (·.dst) with
      | none => rw [hdst] at hc; cases hc
      | some gq =>
        rw [hdst] at hc
        obtain ⟨hlt, hc⟩ := cond_some_none hc
        have hlt := blt_lt hlt
        have ws : ∀ {b}, wantedV (t.getK .any (pathOf gq)) w = some b → ∀ {R e W a}, Here P R e g W asm t a nt → Region.wanted o (yielded ops a.tmps) = b := fun hb _ _ _ _ H => wanted_sound H hgd hdst hlt hb
        rcases dstK_some hc with ⟨q, hq, _, rfl⟩ | ⟨hq, rfl⟩
        · have h' : (match wantedV (t.getK .any (pathOf gq)) w with
            | some true => opK rc t (some (pathOf q)) d (evalOp asm z t g) k g
            | some false => k (putP t (pathOf q) undef) d g
            | none => .fail 103) = .code ex t' d' g' := h
          split at h'
          · rename_i hwv
            obtain ⟨v, d1, g1, h1, h2⟩ := opK_inv h'
            refine ⟨_, d1, g1, h2, fun H hd => ?_⟩
            have := main h1 (ws hwv) H hd
            rw [hq] at this
            exact this
          · rename_i hwv
            refine ⟨_, d, g, h', fun H hd => ?_⟩
            exact skip (by rw [hq]; rfl) (ws hwv) H hd
          · cases h'
        · have h' : (match wantedV (t.getK .any (pathOf gq)) w with
            | some true => opK rc t none d (evalOp asm z t g) k g
            | some false => k t d g
            | none => .fail 104) = .code ex t' d' g' := h
          split at h'
          · rename_i hwv
            obtain ⟨v, d1, g1, h1, h2⟩ := opK_inv h'
            refine ⟨_, d1, g1, h2, fun H hd => ?_⟩
            have := main h1 (ws hwv) H hd
            rw [hq] at this
            exact this
          · rename_i hwv
            refine ⟨_, d, g, h', fun H hd => ?_⟩
            exact skip (by rw [hq]; rfl) (ws hwv) H hd
          · cases h'

theorem foldOps_sound (S : Snd P asm rc) {ops : Array Oper} : ∀ {is : List Nat} {xs : List XOper} {t : Tr AV} {d : List ADef} {g : G} {ex t' d' g'}, All2 (fun i x => OpAt P nt ops i x) is xs → foldOps asm rc xs t d g = .code ex t' d' g' →
    ex = .normal ∧ (∀ {R e W a}, Here P R e g W asm t a nt → DRs e d a.defers → (d' = [] → d = []) ∧ ∃ e' a' W', e.Le e' ∧ Here P R e' g' W' asm t' a' nt ∧ Keep R W W' ∧ DRs e' d' a'.defers ∧
        ∀ (c : Ctx) k cs, (c.rd = none ∨ d' = []) → Steps P (lone (c.fr a (.inRegion ops is :: k)) cs W) (lone (c.fr a' k) cs W'))
  | [], _, t, d, g, ex, t', d', g', .nil, h => by
    cases h
    exact ⟨rfl, fun {R e W a} H hd => ⟨id, e, a, W, Env.Le.refl e, H, Keep.refl R W, hd, fun c k cs _ => .one t_regionEnd⟩⟩
  | i :: is, _, t, d, g, ex, t', d', g', .cons hi hr, h => by
    rename_i x xs
    have h' : stepOp asm rc x t d g (foldOps asm rc xs) = .code ex t' d' g' := h
    obtain ⟨t1, d1, g1, h1, h2⟩ := stepOp_sound S hi h'
    obtain ⟨h3, h4⟩ := foldOps_sound S hr h1
    refine ⟨h3, fun {R e W a} H hd => ?_⟩
    obtain ⟨q1, e1, a1, W1, q2, q3, q4, q5, q6⟩ := h2 H hd
    obtain ⟨r1, e2, a2, W2, r2, r3, r4, r5, r6⟩ := h4 q3 q5
    refine ⟨fun h => q1 (r1 h), e2, a2, W2, q2.trans r2, r3, q4.trans r4, r5, fun c k cs hc => (q6 c is k cs ?_).trans (r6 c k cs hc)⟩
    rcases hc with hc | hc
    · exact .inl hc
    · exact .inr (r1 hc)
end Go.Sx
/-
  Code, calls, rounds, deferred calls.
-/
namespace Go.Sx
open Go

variable {P : Program} {R : Nat → Prop} {e : Env} {g : G} {W : World} {asm : Asm} {t : Tr AV} {a : Act} {nt : Nat} {rc : Cmd → Out}

/-! ### Deferred calls only grow in number -/
theorem oneR_mono {r : OpR} {d : List ADef} {g0 : G} {v d1 g1} (h : OneR rc r d g0 v d1 g1) : d1 = [] → d = [] := by
  cases r with
  | fail n => exact h.elim
  | val x g => obtain ⟨_, rfl, _⟩ := h; exact id
  | skip g => obtain ⟨_, rfl, _⟩ := h; exact id
  | defer y => obtain ⟨_, rfl, _⟩ := h; exact fun h => by cases h
  | enter f as g => obtain ⟨_, rfl⟩ := h; exact id
  | round l as g => obtain ⟨_, rfl⟩ := h; exact id
theorem stepOp_mono {x : XOper} {d : List ADef} {k : Tr AV → List ADef → G → Out} {ex t' d' g'} (h : stepOp asm rc x t d g k = .code ex t' d' g') :
    ∃ t1 d1 g1, k t1 d1 g1 = .code ex t' d' g' ∧ (d1 = [] → d = []) := by
  have fin : ∀ {p} {o : XOp}, opK rc t p d (evalOp asm o t g) k g = .code ex t' d' g' → ∃ t1 d1 g1, k t1 d1 g1 = .code ex t' d' g' ∧ (d1 = [] → d = []) := by
    intro p o h
    obtain ⟨v, d1, g1, h1, h2⟩ := opK_inv h
    exact ⟨_, d1, g1, h2, oneR_mono h1⟩
  cases x with
  | op p o => exact fin (show opK rc t (some p) d (evalOp asm o t g) k g = _ from h)
  | st o => exact fin (show opK rc t none d (evalOp asm o t g) k g = _ from h)
  | gop gp w p o =>
    have h' : (match wantedV (t.getK .any gp) w with
      | some true => opK rc t (some p) d (evalOp asm o t g) k g
      | some false => k (putP t p undef) d g
      | none => .fail 103) = .code ex t' d' g' := h
    split at h'
    · exact fin h'
    · exact ⟨_, d, g, h', id⟩
    · cases h'
  | gst gp w o =>
    have h' : (match wantedV (t.getK .any gp) w with
      | some true => opK rc t none d (evalOp asm o t g) k g
      | some false => k t d g
      | none => .fail 104) = .code ex t' d' g' := h
    split at h'
    · exact fin h'
    · exact ⟨_, d, g, h', id⟩
    · cases h'
theorem foldOps_mono : ∀ {xs : List XOper} {t : Tr AV} {d : List ADef} {g : G} {ex t' d' g'}, foldOps asm rc xs t d g = .code ex t' d' g' → (d' = [] → d = [])
  | [], t, d, g, _, _, _, _, h => by cases h; exact id
  | x :: xs, t, d, g, _, _, _, _, h => by
    obtain ⟨t1, d1, g1, h1, h2⟩ := stepOp_mono (show stepOp asm rc x t d g (foldOps asm rc xs) = _ from h)
    exact fun hd => h2 (foldOps_mono h1 hd)
theorem foldOpsD_mono : ∀ {xs : List (XOper × List XOper)} {t : Tr AV} {d : List ADef} {g : G} {ex t' d' g'}, foldOpsD asm rc xs t d g = .code ex t' d' g' → (d' = [] → d = [])
  | [], t, d, g, _, _, _, _, h => by cases h; exact id
  | x :: xs, t, d, g, _, _, _, _, h => by
    obtain ⟨t1, d1, g1, h1, h2⟩ := stepOp_mono (show stepOp asm rc x.1 t d g (fun t d g1 => cond (Nat.ble g.next g1.next && allAgain asm t g1 x.2) (foldOpsD asm rc xs t d g1) (.fail 105)) = _ from h)
    cases hc : (Nat.ble g.next g1.next && allAgain asm t1 g1 x.2)
    · rw [hc] at h1; cases h1
    · rw [hc] at h1
      exact fun hd => h2 (foldOpsD_mono h1 hd)
theorem seqK_inv {b : XCode} {fn : FuncId} {rd : Option Nat} {o : Out} {ex t' d' g'} (h : seqK rc b fn rd o = .code ex t' d' g') :
    (∃ t1 d1 g1, o = .code .normal t1 d1 g1 ∧ rc (.code b fn rd t1 d1 g1) = .code ex t' d' g') ∨ (o = .code ex t' d' g' ∧ ex ≠ .normal) := by
  unfold seqK at h
  split at h
  · rename_i ex1 t1 d1 g1
    cases ex1 with
    | normal => exact .inl ⟨t1, d1, g1, rfl, h⟩
    | exit id => cases h; exact .inr ⟨rfl, fun h => by cases h⟩
    | ret => cases h; exact .inr ⟨rfl, fun h => by cases h⟩
  · cases h
  · cases h
theorem blockK_inv {id : Nat} {o : Out} {ex t' d' g'} (h : blockK id o = .code ex t' d' g') :
    ∃ ex1, o = .code ex1 t' d' g' ∧ ((ex1 = .exit id ∧ ex = .normal) ∨ (ex1 = ex ∧ ex1 ≠ .exit id)) := by
  unfold blockK at h
  split at h
  · rename_i ex1 t1 d1 g1
    cases ex1 with
    | normal => cases h; exact ⟨_, rfl, .inr ⟨rfl, fun h => by cases h⟩⟩
    | ret => cases h; exact ⟨_, rfl, .inr ⟨rfl, fun h => by cases h⟩⟩
    | exit i =>
      simp only at h
      cases hb : Nat.beq i id
      · rw [hb] at h; cases h
        exact ⟨_, rfl, .inr ⟨rfl, fun h => by cases h; exact beq_f hb rfl⟩⟩
      · cases beq_t hb
        rw [hb] at h; cases h
        exact ⟨_, rfl, .inl ⟨rfl, rfl⟩⟩
  · cases h
  · cases h
theorem rfK_inv {d : List ADef} {l m : Nat} {o : Out} {ex t' d' g'} (h : rfK t d l m o = .code ex t' d' g') :
    ∃ v g1 st pend fn tt ps asg body, o = .val v g1 ∧ hget g1 l = .loop st pend fn tt ps asg body ∧ st ≠ .busy ∧ ex = (match pend with | none => .normal | some e => e) ∧ t' = t ∧ d' = .coll m :: d ∧
      g' = hset g1 l (.loop .exhausted pend fn tt ps asg body) := by
  unfold rfK at h
  split at h
  · rename_i v g1
    split at h
    · rename_i st pend fn tt ps asg body hg
      split at h
      · cases h
      · rename_i hst
        cases h
        exact ⟨v, g1, st, pend, fn, tt, ps, asg, body, rfl, hg, hst, rfl, rfl, rfl, rfl⟩
    · cases h
  · cases h
  · cases h

/-! ### Steps -/
theorem Steps.behind {m m1 m' : Machine} (h : Steps P m m') (hne : m ≠ m') (h1 : step P m = .next m1) : Steps P m1 m' := by
  obtain ⟨n, hn⟩ := h
  cases n with
  | zero => simp only [runN] at hn; cases hn; exact absurd rfl hne
  | succ n => simp only [runN, h1] at hn; exact ⟨n, hn⟩
theorem lone_ne {c : Ctx} {a a' : Act} {k k' : List Item} {cs : List Frame} {W W' : World} (h : k ≠ k') : lone (c.fr a k) cs W ≠ lone (c.fr a' k') cs W' := by
  intro he
  have : (lone (c.fr a k) cs W).gs = (lone (c.fr a' k') cs W').gs := by rw [he]
  simp [lone, Ctx.fr] at this
  exact h this.2.1

section
variable {c : Ctx} {code : Code} {x y : Code}

theorem ArrC.seq1 {a a1 a2 : Act} {W W1 W2 : World} {ex : Ex} (h : ArrC P c x a W .normal a1 W1) (k : ArrC P c y a1 W1 ex a2 W2) : ArrC P c (.seq x y) a W ex a2 W2 := by
  cases ex with
  | normal => exact fun κ kk cs => .head t_seq ((h κ (.code y :: kk) cs).trans (k κ kk cs))
  | exit id => exact fun κ kk cs => let ⟨k', h1, h2⟩ := k κ kk cs; ⟨k', h1, .head t_seq ((h κ (.code y :: kk) cs).trans h2)⟩
  | ret => exact fun κ kk cs => let ⟨k', h2⟩ := k κ kk cs; ⟨k', .head t_seq ((h κ (.code y :: kk) cs).trans h2)⟩
theorem ArrC.seq2 {a a1 : Act} {W W1 : World} {ex : Ex} (h : ArrC P c x a W ex a1 W1) (hn : ex ≠ .normal) : ArrC P c (.seq x y) a W ex a1 W1 := by
  cases ex with
  | normal => exact absurd rfl hn
  | exit id => exact fun κ kk cs => let ⟨k', h1, h2⟩ := h κ (.code y :: kk) cs; ⟨k', h1, .head t_seq h2⟩
  | ret => exact fun κ kk cs => let ⟨k', h2⟩ := h κ (.code y :: kk) cs; ⟨k', .head t_seq h2⟩
theorem ArrC.cond {p : Operand} {b : Bool} {a a1 : Act} {W W1 : World} {ex : Ex} (hp : a.eval p = .bool b) (h : ArrC P c (cond b x y) a W ex a1 W1) : ArrC P c (.cond p x y) a W ex a1 W1 := by
  cases ex with
  | normal => exact fun κ kk cs => .head (t_cond hp) (h κ kk cs)
  | exit id => exact fun κ kk cs => let ⟨k', h1, h2⟩ := h κ kk cs; ⟨k', h1, .head (t_cond hp) h2⟩
  | ret => exact fun κ kk cs => let ⟨k', h2⟩ := h κ kk cs; ⟨k', .head (t_cond hp) h2⟩
theorem ArrC.block {id : Nat} {a a1 : Act} {W W1 : World} {ex ex1 : Ex} (h : ArrC P c x a W ex1 a1 W1) (he : (ex1 = .exit id ∧ ex = .normal) ∨ (ex1 = ex ∧ ex1 ≠ .exit id)) : ArrC P c (.block id x) a W ex a1 W1 := by
  rcases he with ⟨rfl, rfl⟩ | ⟨rfl, hn⟩
  · intro κ kk cs
    obtain ⟨k', h1, h2⟩ := h κ (.inBlock id :: kk) cs
    have : exitTo id k' = some kk := by rw [h1]; simp [exitTo]
    exact .head t_block (h2.trans (.one (t_exit this)))
  · cases ex1 with
    | normal => exact fun κ kk cs => .head t_block ((h κ (.inBlock id :: kk) cs).trans (.one t_inBlock))
    | exit i =>
      intro κ kk cs
      obtain ⟨k', h1, h2⟩ := h κ (.inBlock id :: kk) cs
      refine ⟨k', ?_, .head t_block h2⟩
      rw [h1]
      have : (id == i) = false := by
        simp only [beq_eq_false_iff_ne]
        exact fun hq => hn (by rw [hq])
      simp [exitTo, this]
    | ret => exact fun κ kk cs => let ⟨k', h2⟩ := h κ (.inBlock id :: kk) cs; ⟨k', .head t_block h2⟩
theorem ArrC.loop1 {a a1 a2 : Act} {W W1 W2 : World} {ex : Ex} (h : ArrC P c x a W .normal a1 W1) (k : ArrC P c (.loop x) a1 W1 ex a2 W2) : ArrC P c (.loop x) a W ex a2 W2 := by
  have go : ∀ κ kk cs m, Steps P (lone ((c.as κ).fr a1 (.code (.loop x) :: kk)) cs W1) m → lone ((c.as κ).fr a1 (.code (.loop x) :: kk)) cs W1 ≠ m → Steps P (lone ((c.as κ).fr a (.code (.loop x) :: kk)) cs W) m := fun κ kk cs m hs hne =>
    .head t_loop ((h κ (.inLoop x :: kk) cs).trans (.head t_inLoop (Steps.behind hs hne t_loop)))
  cases ex with
  | normal => exact fun κ kk cs => go κ kk cs _ (k κ kk cs) (lone_ne (fun hq => by have := congrArg List.length hq; simp at this))
  | exit id => exact fun κ kk cs => let ⟨k', h1, h2⟩ := k κ kk cs; ⟨k', h1, go κ kk cs _ h2 (lone_ne (fun hq => by cases hq))⟩
  | ret => exact fun κ kk cs => let ⟨k', h2⟩ := k κ kk cs; ⟨k', go κ kk cs _ h2 (lone_ne (fun hq => by cases hq))⟩
theorem ArrC.loop2 {a a1 : Act} {W W1 : World} {ex : Ex} (h : ArrC P c x a W ex a1 W1) (hn : ex ≠ .normal) : ArrC P c (.loop x) a W ex a1 W1 := by
  cases ex with
  | normal => exact absurd rfl hn
  | exit id => exact fun κ kk cs => let ⟨k', h1, h2⟩ := h κ (.inLoop x :: kk) cs; ⟨k', h1, .head t_loop h2⟩
  | ret => exact fun κ kk cs => let ⟨k', h2⟩ := h κ (.inLoop x :: kk) cs; ⟨k', .head t_loop h2⟩
end
end Go.Sx
/-
  Loops over a function: their frames, their rounds.
-/
namespace Go.Sx
open Go

variable {P : Program} {R : Nat → Prop} {e : Env} {g : G} {W : World} {asm : Asm} {t : Tr AV} {a : Act} {nt : Nat} {rc : Cmd → Out} {c : Ctx}

/-- The world once a loop is entered. -/
def entered (W : World) (fn : FuncId) (tmps : Array Value) (ps : Array Tmp) (asg body : Code) : World :=
  { W with heap := (W.heap.push (.deferred (some []))).push (.loop { state := .ready, pending := none, fn, tmps, params := ps, assign := asg, body, defers := W.heap.size }) }

theorem finish_range (a : Act) (l : Nat) (k : List Item) (v : Value) : (c.fr a (.inRangeFunc l :: k)).finish v = c.fr a (.endRangeFunc l :: k) := rfl

theorem enterLoop_run (W : World) (fn : FuncId) (tmps : Array Value) (ps : Array Tmp) (asg body : Code) :
    (Instr.enterLoop fn tmps ps asg body none).run P W = .ok (W.heap.size + 1, [{ target := .collected W.heap.size, args := #[] }]) (entered W fn tmps ps asg body) := by
  simp [Instr.enterLoop, entered, Result.andThen]
  exact ⟨rfl, rfl, rfl⟩

theorem t_range {f : Operand} {ps : Array Tmp} {asg body : Code} {k : List Item} {cs : List Frame} (hrd : c.rd = none) {f' : FuncId} {first cap : Array Value} (hf : a.eval f = .func (.func f') first cap) {x : Value} {W' : World}
    (hc : CallDone P f' (first ++ #[.func (.yield (W.heap.size + 1)) #[] #[]] ++ cap) (entered W c.fn a.tmps ps asg body) x W') :
    Steps P (lone (c.fr a (.code (.rangeFunc f ps asg body) :: k)) cs W)
      (lone (c.fr { a with defers := { target := .collected W.heap.size, args := #[] } :: a.defers } (.endRangeFunc (W.heap.size + 1) :: k)) cs W') := by
  let a1 : Act := { a with defers := { target := .collected W.heap.size, args := #[] } :: a.defers }
  let fr1 : Frame := c.fr a1 (.inRangeFunc (W.heap.size + 1) :: k)
  have hev : fr1.eval f = .func (.func f') first cap := by rw [Ctx.eval]; exact (by cases f <;> exact hf)
  have hres : ((do let d ← resolve fr1.eval { callee := .value f, args := #[.const (.func (.yield (W.heap.size + 1)) #[] #[])], argTypes := #[] } 0; invoke d.target d.args : Sem Next)).run P (entered W c.fn a.tmps ps asg body) =
      (callFunc f' (first ++ #[.func (.yield (W.heap.size + 1)) #[] #[]] ++ cap)).run P (entered W c.fn a.tmps ps asg body) := by
    simp only [resolve, hev, Deferred.ofValue, Sem.run_bind, Sem.run_pure, Result.andThen, invoke, List.map_toArray, List.map_cons, List.map_nil]
    rfl
  have hstep : ∀ m, (stepG.apply P true fr1 cs none (do let d ← resolve fr1.eval { callee := .value f, args := #[.const (.func (.yield (W.heap.size + 1)) #[] #[])], argTypes := #[] } 0; invoke d.target d.args) (entered W c.fn a.tmps ps asg body)).bare = m →
      (stepG P true { frame := c.fr a (.code (.rangeFunc f ps asg body) :: k), callers := cs, status := .running, dying := none } W).bare = m := by
    intro m hm
    have he := enterLoop_run (P := P) W c.fn a.tmps ps asg body
    simp only [stepG, stepG.exec, Ctx.fr, hrd, Sem.runT_eq, he, GStep.bare_after]
    simp only [fr1, a1, Ctx.fr, hrd] at hm
    exact hm
  rcases hc with hc | ⟨hen, hrun⟩
  · refine .one (step_lone_go (hstep _ ?_))
    rw [← finish_range (c := c) a1]
    simp only [stepG.apply, Sem.runT_eq, hres, hc, GStep.bare_after]
    rfl
  · obtain ⟨fr, hst, hfn, hkd, hmode, hdef, fn, hf', hresult⟩ := hrun .normal (fr1 :: cs) (.inl rfl)
    refine .head (step_lone_go (hstep _ ?_)) (hst.trans (.one ?_))
    · simp only [stepG.apply, Sem.runT_eq, hres, hen, GStep.bare_after]
      rfl
    · have hl : fr.leaving P W' (.returned x) := ⟨hmode, hdef, hkd, fn, by rw [hfn]; exact hf', hresult⟩
      rw [step_leave_returned hl]
      rfl

theorem t_endRange {l : Nat} {k : List Item} {cs : List Frame} {r : Loop} (hr : W.heap[l]? = some (.loop r)) (hs : r.state ≠ .busy) :
    step P (lone (c.fr a (.endRangeFunc l :: k)) cs W) = .next (lone (c.fr a ((r.pending.map Item.code).toList ++ k)) cs { W with heap := W.heap.setIfInBounds l (.loop { r with state := .exhausted }) }) := by
  have hb : (r.state == .busy) = false := by cases hq : r.state <;> first | rfl | exact absurd hq hs
  have hrun : (Instr.endLoop l).run P W = .ok r.pending { W with heap := W.heap.setIfInBounds l (.loop { r with state := .exhausted }) } := by
    simp [Instr.endLoop, Instr.getLoop, getObj_run hr (fun _ _ _ h => by cases h), setObj_run hr (fun _ _ _ h => by cases h), hs, Result.andThen]
  refine step_lone_go ?_
  simp only [stepG, stepG.exec, Ctx.fr, Sem.runT_eq, hrun, GStep.bare_after]
  rfl

theorem Sim.loop (S : Sim P R e g W) {r cc n : Nat} (hb : e.blk r = some (cc, n)) {st pend fn t ps asg body} (hm : hget g r = .loop st pend fn t ps asg body) :
    ∃ l, W.heap[cc]? = some (.loop l) ∧ OR P e (.loop st pend fn t ps asg body) n (.loop l) := by
  obtain ⟨ob, h1, h2, h3⟩ := obj_run hb S (by rw [hm]; exact fun h => by cases h)
  rw [hm] at h3
  cases ob with
  | loop l => exact ⟨l, h2, h3⟩
  | _ => exact h3.elim

/-- A round's first temporaries. -/
theorem zipPut_sound : ∀ (ps : List Tmp) (as : List AV) (xs : List Value) (t t1 : Tr AV) (tmps : Array Value), TR e t tmps → VRs e as xs → zipPut (ps.map pathOf) as t = some t1 →
    ps.length = xs.length ∧ TR e t1 ((ps.zip xs).foldl (fun tm (p : Tmp × Value) => tm.setIfInBounds p.1 p.2) tmps) ∧ ((ps.zip xs).foldl (fun tm (p : Tmp × Value) => tm.setIfInBounds p.1 p.2) tmps).size = tmps.size
  | [], [], [], t, t1, tmps, ht, _, h => by cases h; exact ⟨rfl, ht, rfl⟩
  | [], _ :: _, _, t, t1, tmps, _, _, h => by cases h
  | p :: ps, [], _, t, t1, tmps, _, _, h => by cases h
  | p :: ps, a :: as, x :: xs, t, t1, tmps, ht, hv, h => by
    have h' : zipPut (ps.map pathOf) as (putP t (pathOf p) a) = some t1 := h
    obtain ⟨h1, h2, h3⟩ := zipPut_sound ps as xs _ t1 (tmps.setIfInBounds p x) (ht.put hv.1 p) hv.2 h'
    exact ⟨by simp [h1], h2, by rw [List.zip_cons_cons, List.foldl_cons, h3]; simp⟩
  | _, _ :: _, [], _, _, _, _, hv, _ => hv.elim
  | _, [], _ :: _, _, _, _, _, hv, _ => hv.elim

theorem array_zip_foldl (ps : Array Tmp) (xs : Array Value) (tmps : Array Value) :
    (ps.zip xs).foldl (fun tm (p : Tmp × Value) => tm.setIfInBounds p.1 p.2) tmps = (ps.toList.zip xs.toList).foldl (fun tm (p : Tmp × Value) => tm.setIfInBounds p.1 p.2) tmps := by
  rw [← Array.foldl_toList, Array.toList_zip]

theorem yield_run {cc : Nat} {l : Loop} {xs : Array Value} (h : W.heap[cc]? = some (.loop l)) (hn : l.params.size = xs.size) :
    (Instr.yield cc xs).run P W = .ok (.round cc l.fn ((l.params.toList.zip xs.toList).foldl (fun tm (p : Tmp × Value) => tm.setIfInBounds p.1 p.2) l.tmps) l.assign l.body) W := by
  have hz := array_zip_foldl l.params xs l.tmps
  simp only [Instr.yield, Instr.getLoop, Sem.run_bind, getObj_run h (fun _ _ _ h => by cases h), Result.andThen, Sem.run_pure]
  rw [if_neg (by simpa using hn.symm)]
  simp only [Sem.run_pure]
  rw [← hz]

/-! ### A round -/
theorem rdA_inv {l : Nat} {fn : FuncId} {body : XCode} {o : Out} {v g'} (h : rdA rc l fn body o = .val v g') :
    ∃ t1 d1 g1 pe fn' tt ps asg body' ex t2 d2 g2, o = .code .normal t1 d1 g1 ∧ hget g1 l = .loop .ready pe fn' tt ps asg body' ∧
      rc (.code body fn (some l) t1 d1 (hset g1 l (.loop .busy pe fn' tt ps asg body'))) = .code ex t2 d2 g2 ∧ d2 = [] ∧
      ∃ st pe fn3 tt3 ps3 asg3 body3, hget g2 l = .loop st pe fn3 tt3 ps3 asg3 body3 ∧
        ((ex = .normal ∧ v = .bool (.lit true) ∧ g' = hset g2 l (.loop .ready none fn3 tt3 ps3 asg3 body3)) ∨
         (ex ≠ .normal ∧ v = .bool (.lit false) ∧ g' = hset g2 l (.loop .done (some ex) fn3 tt3 ps3 asg3 body3))) := by
  unfold rdA at h
  split at h
  · rename_i ex1 t1 d1 g1
    split at h
    · split at h
      · rename_i st pe fn' tt ps asg body' hg
        split at h
        · unfold rdK at h
          split at h
          · rename_i ex t2 d2 g2 hrc
            split at h
            · split at h
              · rename_i st3 pe3 fn3 tt3 ps3 asg3 body3 hg3
                refine ⟨t1, d1, g1, pe, fn', tt, ps, asg, body', ex, t2, [], g2, rfl, hg, hrc, rfl, st3, pe3, fn3, tt3, ps3, asg3, body3, hg3, ?_⟩
                split at h
                · cases h; exact .inl ⟨rfl, rfl, rfl⟩
                · rename_i hne
                  cases h; exact .inr ⟨hne, rfl, rfl⟩
              · cases h
            · cases h
          · cases h
          · cases h
        · cases h
      · cases h
    · cases h
  · cases h
  · cases h

/-- What is left of a loop's record once it is turned. -/
theorem OR.loopSet {st st' : LState} {pend pend' : Option Ex} {fn : FuncId} {tt : Tr AV} {ps : List (List Bool)} {asg body : XCode} {n : Nat} {l : Loop} {s : LoopState} {p : Option Code} (h : OR P e (.loop st pend fn tt ps asg body) n (.loop l))
    (hs : LSR st' s) (hp : PR pend' p) : OR P e (.loop st' pend' fn tt ps asg body) n (.loop { l with state := s, pending := p }) := by
  obtain ⟨h1, h2, h3, h4, h5, h6⟩ := h
  exact ⟨h1, hs, hp, h4, h5, h6⟩

theorem round_sound (S : Snd P asm rc) {l : Nat} {as : List AV} {g : G} {v : AV} {g' : G} (h : F_round rc l as g = .val v g') {R : Nat → Prop} {e : Env} {W : World} {xs : Array Value} {cc n : Nat} (ha : AsmOK e asm)
    (hS : Sim P R e g W) (hb : e.blk l = some (cc, n)) (hx : VRs e as xs.toList) :
    ∃ e' x W', e.Le e' ∧ VR e' v x ∧ Sim P R e' g' W' ∧ Keep R W W' ∧ RoundDone P cc xs W x W' := by
  unfold F_round at h
  split at h
  · rename_i st0 pe0 fn tt ps asg body hg
    split at h
    · rename_i t0 hz
      obtain ⟨t1, d1, g1, pe, fn', tt', ps', asg', body', ex, t2, d2, g2, h1, h2, h3, rfl, st3, pe3, fn3, tt3, ps3, asg3, body3, h4, h5⟩ := rdA_inv h
      obtain ⟨L, hL, hOR⟩ := hS.loop hb hg
      obtain ⟨q1, q2, q3, q4, q5, nt, q6, q7, q8, q9⟩ := hOR
      subst q5
      obtain ⟨z1, z2, z3⟩ := zipPut_sound L.params.toList as xs.toList tt t0 L.tmps q4 hx hz
      have hy := yield_run (P := P) (xs := xs) hL (by simpa using z1)
      -- the parameters' assignment
      have H0 : Here P R e g W asm t0 ⟨(L.params.toList.zip xs.toList).foldl (fun tm (p : Tmp × Value) => tm.setIfInBounds p.1 p.2) L.tmps, []⟩ nt :=
        ⟨hS, z2, by show nt ≤ Array.size _; rw [z3]; exact q6, ha⟩
      obtain ⟨m1, k1⟩ := S.code h1
      obtain ⟨m2, k2⟩ := S.code h3
      have hd1 : d1 = [] := m2 rfl
      subst hd1
      obtain ⟨e1, a1, W1, l1, H1, K1, D1, A1⟩ := k1 (c := ⟨L.fn, .normal, some cc⟩) q7 q1 rfl (.inr rfl) H0 .nil
      have hb1 := l1.blk _ _ hb
      obtain ⟨L1, hL1, hOR1⟩ := H1.sim.loop hb1 h2
      have hready : L1.state = .ready := by
        have := hOR1.2.1
        cases hq : L1.state <;> rw [hq] at this <;> first | rfl | exact this.elim
      -- the round begins
      obtain ⟨S2, K2⟩ := H1.sim.put (o' := .loop .busy pe fn' tt' ps' asg' body') h2 trivial hb1 (setObj_put (ob' := .loop { L1 with state := .busy }) hL1) (by
        have := OR.loopSet (st' := .busy) (pend' := pe) (s := .busy) (p := L1.pending) hOR1 trivial hOR1.2.2.1
        exact this)
      have H2 : Here P R e1 (hset g1 l (.loop .busy pe fn' tt' ps' asg' body')) _ asm t1 a1 nt := ⟨S2, H1.tr, H1.nt, H1.asm⟩
      obtain ⟨e2, a2, W2, l2, H3, K3, D2, A2⟩ := k2 (c := ⟨L.fn, .normal, some cc⟩) q8 q1 rfl (.inr rfl) H2 D1
      have hb2 := l2.blk _ _ hb1
      obtain ⟨L2, hL2, hOR2⟩ := H3.sim.loop hb2 h4
      have begin_ : ∀ caller cs, Steps P (lone (Frame.round cc L.fn ((L.params.toList.zip xs.toList).foldl (fun tm (p : Tmp × Value) => tm.setIfInBounds p.1 p.2) L.tmps) L.assign L.body .normal) (caller :: cs) W)
          (lone ((⟨L.fn, .normal, some cc⟩ : Ctx).fr a1 [.code L.body]) (caller :: cs) { W1 with heap := W1.heap.setIfInBounds cc (.loop { L1 with state := .busy }) }) := by
        intro caller cs
        rw [round_frame]
        exact (A1 .normal [.beginRound, .code L.body] (caller :: cs)).trans (.one (t_begin rfl hL1 hready))
      rcases h5 with ⟨rfl, rfl, rfl⟩ | ⟨hne, rfl, rfl⟩
      · obtain ⟨S4, K4⟩ := H3.sim.put (o' := .loop .ready none fn3 tt3 ps3 asg3 body3) h4 trivial hb2 (setObj_put (ob' := .loop { L2 with state := .ready, pending := none }) hL2) (OR.loopSet hOR2 trivial trivial)
        refine ⟨e2, .bool true, _, l1.trans l2, rfl, S4, ((K1.trans K2).trans K3).trans K4, L.fn, _, L.assign, L.body, hy, fun caller cs => ?_⟩
        exact (begin_ caller cs).trans ((A2 .normal [] (caller :: cs)).trans (.one (t_endRound (jump := none) rfl rfl hL2 (.inl ⟨rfl, rfl⟩))))
      · have fin : ∀ (jump : Code), PR (some ex) (some jump) → (∀ caller cs, ∃ todo, Steps P (lone ((⟨L.fn, .normal, some cc⟩ : Ctx).fr a1 [.code L.body]) (caller :: cs) { W1 with heap := W1.heap.setIfInBounds cc (.loop { L1 with state := .busy }) })
              (lone ((⟨L.fn, .normal, some cc⟩ : Ctx).fr a2 todo) (caller :: cs) W2) ∧ ((todo = [] ∧ some jump = none) ∨ (∃ k', todo = .code .ret :: k' ∧ some jump = some .ret) ∨ (∃ id k', todo = .code (.exit id) :: k' ∧ exitTo id k' = none ∧ some jump = some (.exit id)))) →
            ∃ e' x W', e.Le e' ∧ VR e' (.bool (.lit false)) x ∧ Sim P R e' (hset g2 l (.loop .done (some ex) fn3 tt3 ps3 asg3 body3)) W' ∧ Keep R W W' ∧ RoundDone P cc xs W x W' := by
          intro jump hp hrun
          obtain ⟨S4, K4⟩ := H3.sim.put (o' := .loop .done (some ex) fn3 tt3 ps3 asg3 body3) h4 trivial hb2 (setObj_put (ob' := .loop { L2 with state := .done, pending := some jump }) hL2) (OR.loopSet hOR2 trivial hp)
          refine ⟨e2, .bool false, _, l1.trans l2, rfl, S4, ((K1.trans K2).trans K3).trans K4, L.fn, _, L.assign, L.body, hy, fun caller cs => ?_⟩
          obtain ⟨todo, r1, r2⟩ := hrun caller cs
          exact (begin_ caller cs).trans (r1.trans (.one (t_endRound (jump := some jump) rfl rfl hL2 r2)))
        cases ex with
        | normal => exact absurd rfl hne
        | exit id =>
          refine fin (.exit id) rfl fun caller cs => ?_
          obtain ⟨k', r1, r2⟩ := A2 .normal [] (caller :: cs)
          exact ⟨_, r2, .inr (.inr ⟨id, k', rfl, by rw [r1]; rfl, rfl⟩)⟩
        | ret =>
          refine fin .ret trivial fun caller cs => ?_
          obtain ⟨k', r2⟩ := A2 .normal [] (caller :: cs)
          exact ⟨_, r2, .inr (.inl ⟨k', rfl, rfl⟩)⟩
    · cases h
  · cases h
end Go.Sx
/-
  Functions, deferred calls, all code: the evaluator is sound.
-/
namespace Go.Sx
open Go

variable {P : Program} {R : Nat → Prop} {e : Env} {g : G} {W : World} {asm : Asm} {t : Tr AV} {a : Act} {nt : Nat} {rc : Cmd → Out} {c : Ctx}

/-! ### A function's first temporaries, its results -/
theorem initT_get : ∀ (as : List AV) (n : Nat) (t : Tr AV) (i : Nat), 1 ≤ n → (∀ j, n ≤ j → Tr.getN .any t j = .any) →
    Tr.getN .any (List.rec (motive := fun _ => Nat → Tr AV → Tr AV) (fun _ t => t) (fun a _ ih n t => ih (n + 1) (t.setN .any a n)) as n t) (n + i) = (as[i]?).getD .any
  | [], n, t, i, hn, ht => by simpa using ht (n + i) (by omega)
  | a :: as, n, t, i, hn, ht => by
    show Tr.getN .any (List.rec (motive := fun _ => Nat → Tr AV → Tr AV) (fun _ t => t) (fun a _ ih n t => ih (n + 1) (t.setN .any a n)) as (n + 1) (t.setN .any a n)) (n + i) = _
    cases i with
    | zero =>
      -- nothing later is put at n
      have keep : ∀ (as : List AV) (m : Nat) (t : Tr AV), n < m → Tr.getN .any (List.rec (motive := fun _ => Nat → Tr AV → Tr AV) (fun _ t => t) (fun a _ ih n t => ih (n + 1) (t.setN .any a n)) as m t) n = Tr.getN .any t n := by
        intro as
        induction as with
        | nil => intro m t _; rfl
        | cons b as ih =>
          intro m t hm
          show Tr.getN .any (List.rec (motive := fun _ => Nat → Tr AV → Tr AV) (fun _ t => t) (fun a _ ih n t => ih (n + 1) (t.setN .any a n)) as (m + 1) (t.setN .any b m)) n = _
          rw [ih (m + 1) _ (by omega), getN_setN _ _ _ _ _ (by omega) hn, if_neg (by omega)]
      have := keep as (n + 1) (t.setN .any a n) (by omega)
      rw [getN_setN _ _ _ _ _ hn hn, if_pos rfl] at this
      exact this
    | succ i =>
      have := initT_get as (n + 1) (t.setN .any a n) i (by omega) (fun j hj => by rw [getN_setN _ _ _ _ _ hn (by omega), if_neg (by omega)]; exact ht j (by omega))
      rw [show n + (i + 1) = n + 1 + i by omega, this]
      simp
theorem initT_TR {as : List AV} {xs : Array Value} (h : VRs e as xs.toList) (m : Nat) : TR e (initT as) (xs ++ Array.replicate m _root_.Go.undef) := by
  intro i hi
  have hg : (initT as).getK .any (pathOf i) = (as[i]?).getD .any := by
    rw [getK_path]
    have := initT_get as 1 .tip i (Nat.le_refl _) (fun j _ => rfl)
    rw [show i + 1 = 1 + i by omega]
    exact this
  rw [hg]
  cases ha : as[i]? with
  | none => trivial
  | some v =>
    obtain ⟨x, hx, hv⟩ := h.get ha
    have hlt : i < xs.size := by have := (List.getElem?_eq_some_iff.1 hx).1; simpa using this
    have : (xs ++ Array.replicate m _root_.Go.undef).getD i _root_.Go.undef = x := by
      have h1 : xs[i]? = some x := by simpa using hx
      rw [Array.getD_eq_getD_getElem?, Array.getElem?_append_left hlt, h1]; rfl
    rw [this]
    exact hv

theorem readRes_sound (H : Here P R e g W asm t a nt) {r : ResultVar} {x : XRes} {v : AV} (hc : compR P nt r = some x) (h : readRes t g x = some v) :
    ∃ y, (match r with | .tmp t => pure (a.tmps.getD t _root_.Go.undef) | .cell q ty => do loadVar ty (← asAddr (a.tmps.getD q _root_.Go.undef)) : Sem Value).run P W = .ok y W ∧ VR e v y := by
  cases r with
  | tmp i =>
    simp only [compR] at hc
    obtain ⟨h1, h2⟩ := cond_some_none hc
    cases h2
    cases h
    exact ⟨_, rfl, H.tr i (Nat.lt_of_lt_of_le (blt_lt h1) H.nt)⟩
  | cell q ty =>
    simp only [compR] at hc
    obtain ⟨h1, h2⟩ := cond_some_none hc
    obtain ⟨n, hn, rfl⟩ := map_some h2
    have hv := H.tr q (Nat.lt_of_lt_of_le (blt_lt h1) H.nt)
    unfold readRes at h
    simp only at h
    split at h
    · rename_i b off hb
      rw [hb] at hv
      obtain ⟨cc, m, hbl, hx⟩ := hv
      rcases aggN_some hn with ⟨i, q1, q2, rfl⟩ | ⟨q2, rfl⟩
      · obtain ⟨xs, r1, r2⟩ := H.sim.loadN (P := P) hbl h
        exact ⟨.agg xs, by simp [hx, asAddr, loadVar, isAggT_run q2, sizeOf, info_run q1, r1, Result.andThen], r2⟩
      · obtain ⟨y, r1, r2⟩ := H.sim.load1 hbl h
        exact ⟨y, by simp [hx, asAddr, loadVar, isAggT_run q2, r1, Result.andThen], r2⟩
    · cases h
theorem readAll_sound (H : Here P R e g W asm t a nt) : ∀ {rs : List ResultVar} {xs : List XRes} {l : List AV}, optMap (compR P nt) rs = some xs → readAll t g xs = some l →
    ∃ ys, (rs.mapM (fun r => match r with | .tmp t => pure (a.tmps.getD t _root_.Go.undef) | .cell q ty => do loadVar ty (← asAddr (a.tmps.getD q _root_.Go.undef)) : ResultVar → Sem Value)).run P W = .ok ys W ∧ VRs e l ys
  | [], xs, l, hc, h => by rw [optMap_nil hc] at h; cases h; exact ⟨[], rfl, trivial⟩
  | r :: rs, xs, l, hc, h => by
    obtain ⟨x, s, h1, h2, rfl⟩ := optMap_cons hc
    have h' : (match readRes t g x with
      | some v => match readAll t g s with
        | some l => some (v :: l)
        | none => none
      | none => none) = some l := h
    cases hr : readRes t g x with
    | none => rw [hr] at h'; cases h'
    | some v =>
      rw [hr] at h'
      cases hs : readAll t g s with
      | none => rw [hs] at h'; cases h'
      | some l' =>
        rw [hs] at h'; cases h'
        obtain ⟨y, q1, q2⟩ := readRes_sound H h1 hr
        obtain ⟨ys, q3, q4⟩ := readAll_sound H h2 hs
        refine ⟨y :: ys, ?_, q2, q4⟩
        rw [List.mapM_cons]
        simp only [Sem.run_bind]
        rw [q1]
        simp only [Result.andThen]
        rw [q3]
        rfl
def resV (l : List AV) : AV := match l with | [v] => v | vs => .tup vs
theorem results_sound (H : Here P R e g W asm t a nt) {fn : Func} {xs : List XRes} {l : List AV} (hc : optMap (compR P nt) fn.results.toList = some xs) (h : readAll t g xs = some l) :
    ∃ y, (results fn a.tmps).run P W = .ok y W ∧ VR e (resV l) y := by
  obtain ⟨ys, h1, h2⟩ := readAll_sound H hc h
  have hm : (fn.results.mapM (fun r => match r with | .tmp t => pure (a.tmps.getD t _root_.Go.undef) | .cell q ty => do loadVar ty (← asAddr (a.tmps.getD q _root_.Go.undef)) : ResultVar → Sem Value)).run P W = .ok ys.toArray W := by
    rw [Array.mapM_eq_mapM_toList]
    simp only [Sem.run_map, h1, Result.andThen]
  refine ⟨if hs : ys.toArray.size = 1 then ys.toArray[0] else .tuple ys.toArray, ?_, ?_⟩
  · unfold results
    simp only [Sem.run_bind, Sem.run_pure]
    exact (congrArg (fun r => Result.andThen r _) hm).trans rfl
  · cases l with
    | nil =>
      cases ys with
      | nil => exact ⟨#[], rfl, trivial⟩
      | cons y ys => exact h2.elim
    | cons v l =>
      cases ys with
      | nil => exact h2.elim
      | cons y ys =>
        cases l with
        | nil =>
          cases ys with
          | nil => exact h2.1
          | cons z zs => exact h2.2.elim
        | cons w l =>
          cases ys with
          | nil => exact h2.2.elim
          | cons z zs =>
            simp only [List.size_toArray, List.length_cons]
            rw [dif_neg (by omega)]
            exact ⟨_, rfl, h2⟩

/-! ### Deferred calls -/
theorem takeDeferred_run {cc : Nat} {W : World} (h : W.heap[cc]? = some (.deferred (some []))) : (Instr.takeDeferred cc).run P W = .ok [] { W with heap := W.heap.setIfInBounds cc (.deferred none) } := by
  simp [Instr.takeDeferred, getObj_run h (fun _ _ _ h => by cases h), setObj_run h (fun _ _ _ h => by cases h), Result.andThen]

theorem defs_sound (S : Snd P asm rc) {d : List ADef} {g : G} {v : AV} {g' : G} (h : F_defs rc d g = .val v g') {R : Nat → Prop} {e : Env} {W : World} {D : List Deferred} (ha : AsmOK e asm) (hS : Sim P R e g W)
    (hd : DRs e d D) : ∃ e' W', e.Le e' ∧ Sim P R e' g' W' ∧ Keep R W W' ∧ ∀ (fr : Frame) cs, fr.mode = .returning → fr.defers = D → Steps P (lone fr cs W) (lone { fr with defers := [] } cs W') := by
  unfold F_defs at h
  cases d with
  | nil =>
    cases h
    cases hd
    refine ⟨e, W, Env.Le.refl e, hS, Keep.refl R W, fun fr cs hm hq => ?_⟩
    have : ({ fr with defers := [] } : Frame) = fr := by rw [← hq]
    rw [this]
    exact Steps.refl P _
  | cons x r =>
    cases hd with
    | cons h1 h2 =>
      rename_i dd ds
      cases x with
      | coll b =>
        simp only at h
        obtain ⟨cc, n, hb, rfl⟩ := h1
        split at h
        · rename_i hg
          obtain ⟨ob, o1, o2, o3⟩ := obj_run hb hS (by rw [hg]; exact fun h => by cases h)
          rw [hg] at o3
          have o4 : W.heap[cc]? = some (.deferred (some [])) := by
            cases ob <;> first | exact o3.elim | (rw [o2, show _ = some [] from o3])
          have hput := setObj_put (W := W) (ob' := .deferred none) o4
          -- the block is forgotten, then turned
          have S1 : Sim P R e (hset g b .none) { W with heap := W.heap.setIfInBounds cc (.deferred none) } := by
            have hf := hS.forget (P := P) b
            refine ⟨fun b' hb' => ?_, hf.apart, hf.fresh, fun c' hc' => hf.up c' (by simpa using hc'), hf.nxt⟩
            obtain ⟨c', n', ob', q1, q2, q3, q4⟩ := hf.obj b' hb'
            have hne : b' ≠ b := fun he => by subst he; rw [hget_hset, if_pos rfl] at hb'; exact hb' rfl
            have hb'' : hget g b' ≠ .none := by rw [hget_hset, if_neg (Ne.symm hne)] at hb'; exact hb'
            have hcc : c' ≠ cc := fun he => by
              subst he
              exact Excl.not_shares (by rw [hg]; trivial) (hS.apart b b' c' n n' (Ne.symm hne) (by rw [hg]; exact fun h => by cases h) hb'' hb q1)
            exact ⟨c', n', ob', q1, q2, by rw [hput.else_ c' hcc]; exact q3, q4⟩
          obtain ⟨e', W', l1, S2, K2, st⟩ := S.defs h ha S1 h2
          refine ⟨e', W', l1, S2, (hput.keep o1).trans K2, fun fr cs hm hq => .head ?_ (st { fr with defers := ds } cs hm rfl)⟩
          refine step_lone_go ?_
          have ht := takeDeferred_run (P := P) o4
          simp only [stepG, hm, unwind, hq, Sem.runT_eq, ht, GStep.bare_after]
          rfl
        · cases h
      | fn f as =>
        simp only at h
        obtain ⟨xs, rfl, hx⟩ := h1
        split at h
        · rename_i v1 g1 hcall
          obtain ⟨e1, x, W1, l1, _, S1, K1, hdone⟩ := S.call hcall ha hS hx
          obtain ⟨e', W', l2, S2, K2, st⟩ := S.defs h (ha.le l1) S1 (DRs.le l1 h2)
          refine ⟨e', W', l1.trans l2, S2, K1.trans K2, fun fr cs hm hq => Steps.trans ?_ (st { fr with defers := ds } cs hm rfl)⟩
          have hinv : (invoke (.fn (.func f) #[]) xs).run P W = (callFunc f xs).run P W := by simp [invoke]
          rcases hdone with hdone | ⟨hen, hrun⟩
          · refine .one (step_lone_go ?_)
            simp only [stepG, hm, unwind, hq, callDeferred, Sem.runT_eq, hinv, hdone, GStep.bare_after]
            rfl
          · obtain ⟨frX, hst, hfn, hkd, hmode, hdef, fn, hf, hresult⟩ := hrun .deferred ({ fr with defers := ds } :: cs) (.inr rfl)
            refine .head (step_defer (by rw [hm]; exact fun h => by cases h) hq rfl (hinv.trans hen)) (hst.trans (.one ?_))
            have := step_going_returned (P := P) (c := { fr with defers := ds }) (cs := cs) hkd (w := W1) (v := x) ⟨hmode, hdef, fn, by rw [hfn]; exact hf, hresult⟩
            rw [this]
            simp only [hm, settle]
        · cases h
        · cases h
end Go.Sx
