import Derived.Test.YtnkoojgdbnhhnaaGreatDoorAxB
import Derived.RangeFuncLeaves
set_option linter.unusedVariables false
set_option linter.unusedSimpArgs false
namespace Go.Ax
open Go Go.RowKit
section
variable {C : Cfg} {B : Bd} {w0 w : World} {μ : Mu} {h : H} {next : Nat} {ρ : Env} {e : Operand → Value}

theorem Inv.unfresh (I : Inv C B w0 μ h next w) : μ next = none := I.fresh next (Nat.le_refl _)

/-- a block is given up for a new one in the same place -/
theorem Inv.swap (I : Inv C B w0 μ h next w) {b : Nat} {L : Loc} {ob ob' : AO} {w' : World} (hm : μ b = some L) (hg : h.get b = some ob) (hr : ob.ro = false)
    (hB : Below B.n w w') (hs : w.heap.size ≤ w'.heap.size) (ho : ∀ c, c ≠ L.c → c < w.heap.size → w'.heap[c]? = w.heap[c]?) (hob : ObRel (μ.add next L) L w' ob') :
    Inv C B w0 (μ.add next L) ((h.del b).put next ob') (next + 1) w' := by
  have hle := Mu.le_add I.unfresh L
  have hbn : b ≠ next := fun hh => by rw [hh, I.unfresh] at hm; cases hm
  have hget : ∀ x, x ≠ next → ∀ o, ((h.del b).put next ob').get x = some o → x ≠ b ∧ h.get x = some o := fun x hx o hh => by
    rw [T.get_put, if_neg hx, T.get_del] at hh
    split at hh
    · cases hh
    · exact ⟨‹_›, hh⟩
  have old : ∀ x L' o, x ≠ next → (μ.add next L) x = some L' → ((h.del b).put next ob').get x = some o → μ x = some L' ∧ h.get x = some o ∧ L'.c ≠ L.c := fun x L' o hx h1 h2 => by
    rw [Mu.add_other _ _ hx] at h1
    obtain ⟨k1, k2⟩ := hget x hx o h2
    exact ⟨h1, k2, fun hc => k1 (I.inj x b L' L h1 hm (by simp [k2]) (by simp [hg]) hc)⟩
  refine ⟨I.below.trans hB, Nat.le_trans I.size hs, fun x hx => ?_, fun g hgl => ?_, fun x L' o h1 h2 => ?_, fun x x' L1 L2 h1 h2 h3 h4 hc => ?_, fun x L' o h1 h2 h3 => ?_, fun c hc => ?_, fun x L' o h1 h2 hc => ?_, fun x hx => ?_⟩
  · rw [Mu.add_other _ _ (by omega)]; exact I.fresh x (by omega)
  · obtain ⟨t, ht⟩ := I.glob g hgl; exact ⟨t, hle _ _ ht⟩
  · by_cases hx : x = next
    · subst hx; rw [Mu.add_same] at h1; cases h1; rw [T.get_put, if_pos rfl] at h2; cases h2; exact hob
    · obtain ⟨k1, k2, k3⟩ := old x L' o hx h1 h2
      have := I.obj x L' o k1 k2
      exact (this.congr (ho _ k3 this.lt)).mono hle
  · obtain ⟨o1, e1⟩ := Option.isSome_iff_exists.1 h3
    obtain ⟨o2, e2⟩ := Option.isSome_iff_exists.1 h4
    by_cases hx : x = next <;> by_cases hx' : x' = next
    · rw [hx, hx']
    · subst hx; rw [Mu.add_same] at h1; cases h1
      exact absurd hc.symm (old x' L2 o2 hx' h2 e2).2.2
    · subst hx'; rw [Mu.add_same] at h2; cases h2
      exact absurd hc (old x L1 o1 hx h1 e1).2.2
    · obtain ⟨k1, k2, _⟩ := old x L1 o1 hx h1 e1
      obtain ⟨k3, k4, _⟩ := old x' L2 o2 hx' h2 e2
      exact I.inj x x' L1 L2 k1 k3 (by simp [k2]) (by simp [k4]) hc
  · by_cases hx : x = next
    · subst hx; rw [Mu.add_same] at h1; cases h1; exact I.own b L ob hm hg hr
    · obtain ⟨k1, k2, _⟩ := old x L' o hx h1 h2
      exact I.own x L' o k1 k2 h3
  · obtain ⟨k1, k2⟩ := I.keep c hc
    exact ⟨by omega, by rw [ho c (fun e => I.out b L ob hm hg (e ▸ hc)) k1]; exact k2⟩
  · by_cases hx : x = next
    · subst hx; rw [Mu.add_same] at h1; cases h1; exact I.out b L ob hm hg hc
    · obtain ⟨k1, k2, _⟩ := old x L' o hx h1 h2
      exact I.out x L' o k1 k2 hc
  · rw [T.get_put, if_neg (by omega), T.get_del]
    split
    · rfl
    · exact I.hfresh x (by omega)

theorem run_lenOf {x : AV} {n : Nat} (hn : lenOfAV x = some n) {x' : Value} (hx : VRel μ x x') (w : World) : (Builtin.lenOf x').run C.P w = .ok n w := by
  unfold lenOfAV at hn
  split at hn
  · obtain ⟨L, cap', _, _, _, _, _, rfl⟩ := hx.sl_inv; cases hn; rfl
  · obtain ⟨a, c, rfl⟩ := hx.sl0_inv; cases hn; rfl
  · rw [hx.lit_inv]; cases hn; rfl
  · rw [hx.lit_inv]; cases hn; rfl
  · cases hn

theorem next_cap (n c : Nat) (h : c < n) : Builtin.nextslicecap n c ≤ 2 * n + 192 := by
  unfold Builtin.nextslicecap
  split
  · omega
  · split
    · omega
    · have key : ∀ (r c : Nat), c ≤ 2 * n + 192 → Builtin.growBy n r c ≤ 2 * n + 192 := by
        intro r
        induction r with
        | zero => intro c hc; simpa [Builtin.growBy] using hc
        | succ r ih =>
          intro c hc
          simp only [Builtin.growBy]
          split
          · exact hc
          · exact ih _ (by omega)
      exact key 4 c (by omega)

section runs
variable {st xt elem : TypeId} {dx : TypeDesc} {ti : TypeInfo} {zv : Value} {ats : Array TypeId} {ty : TypeId}
theorem run_append_in (h0 : ats[0]? = some st) (h1 : ats[1]? = some xt) (hu : C.P.underlying st = some (.slice elem)) (hx : C.P.underlying xt = some dx) (hd : ∀ k, dx ≠ .int k) (hi : C.P.info? elem = some ti)
    {a : Addr} {sLen sCap n : Nat} {x' : Value} {vs : List Value} (hl : (Builtin.lenOf x').run C.P w = .ok n w) (hf : (Builtin.firstCells ti.size n x').run C.P w = .ok vs.toArray w) (hc : sLen + n ≤ sCap)
    {w' : World} (hs : (storeCells (a.add (sLen * ti.size)) vs).run C.P w = .ok () w') :
    (Builtin.append_ ats ty #[.slice (some a) sLen sCap, x']).run C.P w = .ok (.slice (some a) (sLen + n) sCap) w' := by
  have hz : (dx matches .int _) = false := by cases dx <;> first | rfl | exact absurd rfl (hd _)
  simp [Builtin.append_, h0, h1, run_und hu, run_und hx, hz, sizeOf, typeInfo, hi, hl, hf, hc, hs]
theorem run_append_new (h0 : ats[0]? = some st) (h1 : ats[1]? = some xt) (hu : C.P.underlying st = some (.slice elem)) (hx : C.P.underlying xt = some dx) (hd : ∀ k, dx ≠ .int k) (hi : C.P.info? elem = some ti) (hzv : ti.zero = some zv)
    {a : Option Addr} {sLen sCap n : Nat} {x' : Value} {os vs : List Value} (hl : (Builtin.lenOf x').run C.P w = .ok n w) (ho : (Builtin.firstCells ti.size sLen (.slice a sLen sCap)).run C.P w.drew = .ok os.toArray w.drew)
    (hf : (Builtin.firstCells ti.size n x').run C.P w.drew = .ok vs.toArray w.drew) (hc : sCap < sLen + n) (hb : 0 < ti.bytes) (hby : ti.bytes * (2 * (sLen + n) + 192) ≤ 2 ^ 47) :
    ∃ cap', sLen + n ≤ cap' ∧ (Builtin.append_ ats ty #[.slice a sLen sCap, x']).run C.P w = .ok (.slice (some ⟨w.heap.size, 0, none⟩) (sLen + n) cap') (w.drew.alloc (.cells (os.toArray ++ vs.toArray ++ Builtin.zeroCells zv.cells (cap' - (sLen + n))) elem)) := by
  have hz : (dx matches .int _) = false := by cases dx <;> first | rfl | exact absurd rfl (hd _)
  have hn : ¬ (sLen + n ≤ sCap) := by omega
  have hnc := next_cap (sLen + n) sCap hc
  have h48 : ¬ (281474976710656 < Builtin.nextslicecap (sLen + n) sCap * ti.bytes) := by
    have : Builtin.nextslicecap (sLen + n) sCap * ti.bytes ≤ (2 * (sLen + n) + 192) * ti.bytes := Nat.mul_le_mul_right _ hnc
    have : (2 * (sLen + n) + 192) * ti.bytes = ti.bytes * (2 * (sLen + n) + 192) := Nat.mul_comm _ _
    omega
  have hbz : ¬ ti.bytes = 0 := by omega
  refine ⟨grownCap w (sLen + n) sCap elem, by simp [grownCap, Question.cut], ?_⟩
  simp [Builtin.append_, h0, h1, run_und hu, run_und hx, hz, sizeOf, typeInfo, zeroValue, hi, hzv, hl, hn, h48, hbz, Question.forced, hf, ho, newRow, grownCap]
  congr 2
  apply Array.ext'
  simp [List.append_assoc]
end runs
end
end Go.Ax
set_option linter.unusedVariables false
set_option linter.unusedSimpArgs false
namespace Go.Ax
open Go Go.RowKit
section
variable {C : Cfg} {B : Bd} {w0 w : World} {μ : Mu} {h : H} {next : Nat} {ρ : Env} {e : Operand → Value}

/-- what an append comes to -/
def POk (C : Cfg) (B : Bd) (w0 : World) (μ : Mu) (h : H) (next : Nat) (w : World) (s : Sem Value) (v : AV) (h' : H) (next' : Nat) : Prop :=
  ∃ v' w' μ', s.run C.P w = .ok v' w' ∧ Ext next μ h μ' h' ∧ VRel μ' v v' ∧ Inv C B w0 μ' h' next' w' ∧ next ≤ next'

theorem CellsRel.ext {c : T AV} {k : Nat} {new : List AV} {L : Loc} {ws : List Value} (hr : VRels μ new ws) (hold : ∀ i, i < k → ∃ a v, c.get i = some a ∧ w.cell? ⟨L.c, i, none⟩ = some v ∧ VRel μ a v)
    (hnew : ∀ (j : Nat) v, ws[j]? = some v → w.cell? ⟨L.c, k + j, none⟩ = some v) : CellsRel μ (wrCells c k new) (k + new.length) L w := by
  intro i hi
  rw [get_wrCells]
  by_cases hk : i < k
  · rw [if_neg (by omega)]; exact hold i hk
  · rw [if_pos (by omega)]
    have hj : i - k < new.length := by omega
    obtain ⟨u, hu, hur⟩ := hr.get (List.getElem?_eq_getElem hj)
    refine ⟨_, u, List.getElem?_eq_getElem hj, ?_, hur⟩
    have := hnew _ u hu
    rwa [show k + (i - k) = i by omega] at this

/-- the old cells, taken over -/
theorem oldCells_ok {k b off : Nat} {c : T AV} {k' : Nat} (hc : oldCells h k b off = some (c, k')) (I : Inv C B w0 μ h next w) {L : Loc} (hL : μ b = some L) :
    k' = k ∧ ∃ os : List Value, os.length = k ∧ (∀ (j : Nat) v, os[j]? = some v → w.cell? ⟨L.c, off + j, none⟩ = some v) ∧ (∀ i, i < k → ∃ a v, c.get i = some a ∧ os[i]? = some v ∧ VRel μ a v) := by
  unfold oldCells at hc
  split at hc
  · rename_i c0 cn el ro hg
    have hob := I.obj b L _ hL hg
    split at hc
    · rename_i hle
      have hle : off + k ≤ cn := Nat.le_of_ble_eq_true hle
      cases off with
      | zero =>
        simp at hc
        obtain ⟨rfl, rfl⟩ := hc
        -- the values, one by one
        have key : ∀ m, m ≤ k → ∃ os : List Value, os.length = m ∧ (∀ (j : Nat) v, os[j]? = some v → w.cell? ⟨L.c, 0 + j, none⟩ = some v) ∧ (∀ i, i < m → ∃ a v, c0.get i = some a ∧ os[i]? = some v ∧ VRel μ a v) := by
          intro m
          induction m with
          | zero => intro _; exact ⟨[], rfl, by simp, by simp⟩
          | succ m ih =>
            intro hm
            obtain ⟨os, q1, q2, q3⟩ := ih (by omega)
            obtain ⟨a, v, ha, hv, hr⟩ := hob.1 m (by omega)
            refine ⟨os ++ [v], by simp [q1], fun j u hu => ?_, fun i hi => ?_⟩
            · rw [List.getElem?_append] at hu
              by_cases hj : j < os.length
              · rw [if_pos hj] at hu; exact q2 j u hu
              · rw [if_neg hj] at hu
                have : j - os.length = 0 := by have := (List.getElem?_eq_some_iff.1 hu).1; simp at this; omega
                rw [this] at hu; simp at hu; subst hu
                rw [show 0 + j = m by omega]; exact hv
            · by_cases h1 : i < m
              · obtain ⟨a', v', p1, p2, p3⟩ := q3 i h1
                exact ⟨a', v', p1, by rw [List.getElem?_append, if_pos (by omega)]; exact p2, p3⟩
              · have : i = m := by omega
                subst this
                exact ⟨a, v, ha, by rw [List.getElem?_append, if_neg (by omega)]; simp [q1], hr⟩
        exact ⟨rfl, key k (Nat.le_refl _)⟩
      | succ off =>
        simp only at hc
        split at hc
        · rename_i l hl
          cases hc
          obtain ⟨vs, q1, q2, q3⟩ := rdCells_ok hob.1 _ _ _ hl hle
          refine ⟨rfl, vs, q2, q3, fun i hi => ?_⟩
          have hll := q1.length
          obtain ⟨u, hu, hur⟩ := q1.get (List.getElem?_eq_getElem (show i < l.length by omega))
          refine ⟨_, u, ?_, hu, hur⟩
          rw [get_wrCells, if_pos (by omega)]; simp
        · cases hc
    · cases hc
  · cases hc

theorem appNew_ok {size n need : Nat} {elem : TypeId} {c : T AV} {k : Nat} {new : List AV} {os ws : List Value} {rest : Array Value} {cap' : Nat}
    (I : Inv C B w0 μ h next w) (hold : ∀ i, i < k → ∃ a v, c.get i = some a ∧ os[i]? = some v ∧ VRel μ a v) (hok : os.length = k) (hr : VRels μ new ws) (hn : need ≤ cap') (hk : k + new.length = need * size)
    (hrest : rest.size = (cap' - need) * size) :
    ∃ μ', Ext next μ h μ' (h.put next (.cells (wrCells c k new) (k + new.length) elem false)) ∧ VRel μ' (.sl next 0 need need size false) (.slice (some ⟨w.heap.size, 0, none⟩) need cap') ∧
      Inv C B w0 μ' (h.put next (.cells (wrCells c k new) (k + new.length) elem false)) (next + 1) (w.drew.alloc (.cells (os.toArray ++ ws.toArray ++ rest) elem)) := by
  have I1 := I.drew.reserve (.cells (wrCells c k new) (k + new.length) elem false)
  have hws := hr.length
  have harr : (os.toArray ++ ws.toArray ++ rest).size = cap' * size := by
    simp [hrest, hok]
    have : (cap' - need) * size + need * size = cap' * size := by rw [← Nat.add_mul]; congr 1; omega
    omega
  have hle := Mu.le_add I.unfresh ⟨w.heap.size, (os.toArray ++ ws.toArray ++ rest).size⟩
  have I2 := I1.commit (b := next) (ob := .cells (wrCells c k new) (k + new.length) elem false) (by omega) I.unfresh (by rw [T.get_put, if_pos rfl]) (.cells (os.toArray ++ ws.toArray ++ rest) elem) (os.toArray ++ ws.toArray ++ rest).size
    ⟨CellsRel.ext (hr.mono hle) (fun i hi => by
        obtain ⟨a, v, h1, h2, h3⟩ := hold i hi
        refine ⟨a, v, h1, ?_, h3.mono hle⟩
        rw [alloc_cell]
        have : i < os.length := by omega
        rw [Array.getElem?_append_left (by simp; omega), Array.getElem?_append_left (by simp; omega)]; simpa using h2) (fun j v hv => by
        rw [alloc_cell]
        have hj := (List.getElem?_eq_some_iff.1 hv).1
        rw [Array.getElem?_append_left (by simp; omega), Array.getElem?_append_right (by simp; omega)]
        simp [hok]; simpa using hv),
      by simp only; rw [harr, hk]; exact Nat.mul_le_mul_right _ hn, alloc_shape, fun _ i => alloc_frozen⟩
  refine ⟨_, ⟨hle, fun x hx hm => ⟨by rw [Mu.add_other _ _ (by omega)]; exact hm, by rw [T.get_put, if_neg (by omega)]⟩⟩, ?_, I2⟩
  exact VRel.sl (L := ⟨w.heap.size, _⟩) (Mu.add_same _ _ _) hn (fun h => by cases h) (Nat.le_refl _) (by simp only; rw [harr]; omega)

theorem Ext.of_kill {n0 b : Nat} {L : Loc} (hL : μ b = some L) : Ext n0 μ h μ (h.del b) :=
  ⟨Mu.le.refl _, fun x _ hx => ⟨hx, by rw [T.get_del, if_neg]; intro e; subst e; rw [hL] at hx; cases hx⟩⟩

section
variable {st xt elem : TypeId} {dx : TypeDesc} {ti : TypeInfo} {zv : Value} {ats : Array TypeId} {ty : TypeId}
theorem zero_size (n : Nat) : (Builtin.zeroCells zv.cells n).size = n * zv.cells.size := by simp [Builtin.zeroCells]

theorem appSl_ok {b off len cap n : Nat} {exact : Bool} {x : AV} {v : AV} {h' : H} {next' : Nat} {esz : Nat}
    (hv : appSl h next elem ti.size ti.bytes b off len cap esz exact n x = some (v, h', next'))
    (h0 : ats[0]? = some st) (h1 : ats[1]? = some xt) (hu : C.P.underlying st = some (.slice elem)) (hx : C.P.underlying xt = some dx) (hd : ∀ k, dx ≠ .int k) (hi : C.P.info? elem = some ti) (hzv : ti.zero = some zv)
    (hzs : zv.cells.size = ti.size) (hb : 0 < ti.bytes) (hln : lenOfAV x = some n) (I : Inv C B w0 μ h next w) {s' x' : Value} (hs : VRel μ (.sl b off len cap esz exact) s') (hxr : VRel μ x x') :
    POk C B w0 μ h next w (Builtin.append_ ats ty #[s', x']) v h' next' := by
  obtain ⟨L, cap', hL, c1, c2, c3, c4, rfl⟩ := hs.sl_inv
  have hlen := run_lenOf (C := C) hln hxr
  unfold appSl at hv
  split at hv
  · -- there is room
    rename_i he hc
    have he : esz = ti.size := by simpa using he
    subst he
    have hc : len + n ≤ cap := Nat.le_of_ble_eq_true hc
    unfold appIn at hv
    split at hv
    · rename_i new hf
      obtain ⟨ws, q1, q2, q3, q4⟩ := firstC_ok hf I hxr
      split at hv
      · rename_i h2 hst
        cases hv
        obtain ⟨p1, p2, ob, p3, p4⟩ := astoreCells_ok hst I hL q1
        have q3' : (Builtin.firstCells ti.size n x').run C.P w = .ok ws.toArray w := q3 0
        refine ⟨_, _, μ, run_append_in h0 h1 hu hx hd hi (hlen w) q3' (by omega) (by rw [add_mk]; exact p1), by rw [p3]; exact Ext.put hL, ?_, p2, Nat.le_refl _⟩
        exact .sl hL c1 c2 hc c4
      · cases hv
    · cases hv
  · -- there is none, or perhaps
    rename_i he hc
    have he : esz = ti.size := by simpa using he
    subst he
    have hc : cap < len + n := by
      by_cases hh : len + n ≤ cap
      · have : Nat.ble (Nat.add len n) cap = true := Nat.ble_eq_true_of_le hh
        rw [this] at hc; cases hc
      · omega
    split at hv
    · rename_i hcond
      obtain ⟨hby, hex⟩ := hcond
      unfold appNew at hv
      split at hv
      · rename_i c k new hoc hf
        cases hv
        obtain ⟨rfl, os, o1, o2, o3⟩ := oldCells_ok hoc I hL
        obtain ⟨ws, q1, q2, q3, q4⟩ := firstC_ok hf I hxr
        have hnl := q1.length
        have hkn : len * ti.size + new.length = (len + n) * ti.size := by rw [hnl, q2, Nat.add_mul]
        by_cases hroom : len + n ≤ cap'
        · -- in place after all
          have hexf : exact = false := by
            cases exact with
            | true => have := c2 rfl; omega
            | false => rfl
          subst hexf
          rcases hex with hex | ⟨rfl, hrw⟩
          · cases hex
          · unfold isRw at hrw
            split at hrw
            · rename_i c0 cn el hg
              have hel : el = elem := by simpa using hrw
              subst hel
              have hob := I.obj b L _ hL hg
              have hL' := I.own b L _ hL hg rfl
              have hcell : ∀ j, j < ws.length → (w.cell? ⟨L.c, len * ti.size + j, none⟩).isSome = true := fun j hj => by
                have h5 : (len + n) * ti.size ≤ cap' * ti.size := Nat.mul_le_mul_right _ hroom
                obtain ⟨v, hv⟩ := cell_of_shape hob.2.2.1 (i := len * ti.size + j) (by omega)
                simp [hv]
              have hone := q4
              have hrun := run_storeCells_cells (P := C.P) L.c (len * ti.size) ws 0 w (by simpa using hcell) (fun j _ => hob.2.2.2 rfl _) hone
              have q3' : (Builtin.firstCells ti.size n x').run C.P w = .ok ws.toArray w := q3 0
              have hle := Mu.le_add I.unfresh L
              have Is := I.swap (ob' := .cells (wrCells c (len * ti.size) new) (len * ti.size + new.length) el false) (w' := w.setCells L.c (len * ti.size) ws) hL hg rfl (setCells_below _ hL' _ _ _) (Nat.le_of_eq (setCells_size _ _ _ _).symm) (fun k hk _ => setCells_heap _ _ _ _ k hk)
                ⟨CellsRel.ext (q1.mono hle) (fun i hi => by
                    obtain ⟨a, v, p1, p2, p3⟩ := o3 i hi
                    refine ⟨a, v, p1, ?_, p3.mono hle⟩
                    rw [World.cell?_setCells_out L.c ws _ w _ (fun _ _ => by simp; omega)]
                    simpa using o2 i v p2) (fun j v hv => by
                    have hj := (List.getElem?_eq_some_iff.1 hv).1
                    rw [World.cell?_setCells_in L.c ws _ w hcell j hj, ← hv, List.getElem?_eq_getElem hj]),
                  by have h5 : (len + n) * ti.size ≤ cap' * ti.size := Nat.mul_le_mul_right _ hroom
                     omega, by rw [setCells_shape]; exact hob.2.2.1, fun _ i => by rw [World.frozen?_setCells]; exact hob.2.2.2 rfl i⟩
              refine ⟨_, _, _, run_append_in h0 h1 hu hx hd hi (hlen w) q3' hroom (by rw [add_mk]; simpa using hrun), ⟨hle, fun x hx hm => ⟨by rw [Mu.add_other _ _ (by omega)]; exact hm, ?_⟩⟩, ?_, Is, Nat.le_succ _⟩
              · have hxb : x ≠ b := fun e => by subst e; rw [hL] at hm; cases hm
                rw [T.get_put, if_neg (by omega), T.get_del, if_neg hxb]
              · exact VRel.sl (L := L) (Mu.add_same _ _ _) hroom (fun h => by cases h) (Nat.le_refl _) (by simpa using c4)
            · cases hrw
        · -- a new block
          have hfo : (Builtin.firstCells ti.size len (.slice (some ⟨L.c, off, none⟩) len cap')).run C.P w.drew = .ok os.toArray w.drew := by
            have := run_loadCells_list (P := C.P) w.drew ⟨L.c, off, none⟩ os (fun j v hv => by rw [add_mk]; exact o2 j v hv)
            rw [o1] at this
            exact this
          have q3' : (Builtin.firstCells ti.size n x').run C.P w.drew = .ok ws.toArray w.drew := q3 1
          obtain ⟨cp, r1, r2⟩ := run_append_new (ty := ty) h0 h1 hu hx hd hi hzv (hlen w) hfo q3' (by omega) hb hby
          cases exact with
          | true =>
            obtain ⟨μ', g1, g2, g3⟩ := appNew_ok (n := n) (elem := elem) (rest := Builtin.zeroCells zv.cells (cp - (len + n))) I o3 o1 q1 r1 hkn (by rw [zero_size, hzs])
            exact ⟨_, _, μ', r2, g1, g2, g3, Nat.le_succ _⟩
          | false =>
            obtain ⟨μ', g1, g2, g3⟩ := appNew_ok (n := n) (elem := elem) (rest := Builtin.zeroCells zv.cells (cp - (len + n))) (I.kill b) o3 o1 q1 r1 hkn (by rw [zero_size, hzs])
            exact ⟨_, _, μ', r2, (Ext.of_kill hL).trans (Nat.le_refl _) g1, g2, g3, Nat.le_succ _⟩
      · cases hv
    · cases hv
  · cases hv
end
end
end Go.Ax
set_option linter.unusedVariables false
set_option linter.unusedSimpArgs false
namespace Go.Ax
open Go Go.RowKit
section
variable {C : Cfg} {B : Bd} {w0 w : World} {μ : Mu} {h : H} {next : Nat} {ρ : Env} {e : Operand → Value}

theorem POk.value {s : Sem Value} {v : AV} {h' : H} {next' : Nat} (hp : POk C B w0 μ h next w s v h' next') {o : Oper} (he : execOp e o = do pure (.value (← s))) : WOk C B w0 μ h next w e o v h' next' := by
  obtain ⟨v', w', μ', h1, h2, h3, h4, h5⟩ := hp
  exact ⟨v', w', _, μ', by rw [he]; simp [h1], .inl rfl, h2, h3, h4, h5⟩

theorem appNil_ok {st xt elem : TypeId} {dx : TypeDesc} {ti : TypeInfo} {zv : Value} {ats : Array TypeId} {ty : TypeId} {n : Nat} {x : AV} {v : AV} {h' : H} {next' : Nat}
    (hv : appNil h next elem ti.size ti.bytes n x = some (v, h', next'))
    (h0 : ats[0]? = some st) (h1 : ats[1]? = some xt) (hu : C.P.underlying st = some (.slice elem)) (hx : C.P.underlying xt = some dx) (hd : ∀ k, dx ≠ .int k) (hi : C.P.info? elem = some ti) (hzv : ti.zero = some zv)
    (hzs : zv.cells.size = ti.size) (hb : 0 < ti.bytes) (hln : lenOfAV x = some n) (I : Inv C B w0 μ h next w) {x' : Value} (hxr : VRel μ x x') :
    POk C B w0 μ h next w (Builtin.append_ ats ty #[.slice none 0 0, x']) v h' next' := by
  have hlen := run_lenOf (C := C) hln hxr
  have hz : (dx matches .int _) = false := by cases dx <;> first | rfl | exact absurd rfl (hd _)
  unfold appNil at hv
  split at hv
  · cases hv
    -- nothing is appended
    have hf : ∃ vs : List Value, (Builtin.firstCells ti.size 0 x').run C.P w = .ok vs.toArray w := by
      unfold lenOfAV at hln
      split at hln
      · obtain ⟨L, cap', _, _, _, _, _, rfl⟩ := hxr.sl_inv
        exact ⟨[], by simp [Builtin.firstCells, loadCells, loadCellsFrom]⟩
      · obtain ⟨a, c, rfl⟩ := hxr.sl0_inv
        exact ⟨[], by simp [Builtin.firstCells, loadCells, loadCellsFrom]⟩
      · rw [hxr.lit_inv]; exact ⟨[], by simp [Builtin.firstCells]⟩
      · rename_i s
        rw [hxr.lit_inv]; exact ⟨((s.extract 0 0).data.map fun b => Value.int .u8 b.toNat).toList, by simp [Builtin.firstCells]⟩
      · cases hln
    obtain ⟨vs, hf⟩ := hf
    refine ⟨.slice none 0 0, w, μ, ?_, Ext.refl _ _ _, .lit _, I, Nat.le_refl _⟩
    simp [Builtin.append_, h0, h1, run_und hu, run_und hx, hz, sizeOf, typeInfo, hi, hlen, hf]
  · rename_i n
    split at hv
    · rename_i hby
      unfold appNew at hv
      split at hv
      · rename_i c k new hoc hf
        cases hv
        cases hoc
        obtain ⟨ws, q1, q2, q3, q4⟩ := firstC_ok hf I hxr
        have q3' : (Builtin.firstCells ti.size (n + 1) x').run C.P w.drew = .ok ws.toArray w.drew := q3 1
        obtain ⟨cp, r1, r2⟩ := run_append_new (ty := ty) (a := none) (sLen := 0) (sCap := 0) (n := n + 1) (os := []) h0 h1 hu hx hd hi hzv (hlen w) (by simp [Builtin.firstCells]) q3' (by omega) hb (by simpa using hby)
        obtain ⟨μ', g1, g2, g3⟩ := appNew_ok (c := .e) (k := 0) (os := []) (size := ti.size) (n := n + 1) (need := n + 1) (cap' := cp) (elem := elem) (rest := Builtin.zeroCells zv.cells (cp - (n + 1))) I (fun i hi => by omega) rfl q1 (by omega) (by have := q1.length; simp [this, q2]) (by rw [zero_size, hzs])
        refine ⟨_, _, μ', r2, g1, ?_, ?_, Nat.le_succ _⟩
        · simpa using g2
        · simpa using g3
      · cases hv
    · cases hv

theorem wAppend_ok {c : Call} {ty : TypeId} {d : Option Tmp} {pos : String} {af : Array Edge} {g} {v : AV} {h' : H} {next' : Nat} (hc : c.callee = .builtin .append)
    (hv : wAppend C h next (evs ρ c.args.toList) c.argTypes[0]? c.argTypes[1]? = some (v, h', next')) (r : ER μ ρ e c.args.toList) (I : Inv C B w0 μ h next w) :
    WOk C B w0 μ h next w e ⟨d, .call c, ty, pos, af, g⟩ v h' next' := by
  unfold wAppend at hv
  split at hv
  · rename_i s x st xt hl h0 h1
    obtain ⟨s', x', rs, rx, ha⟩ := evs_two hl r
    obtain ⟨cc, hcc⟩ := exec_builtin (e := e) (ty := ty) (d := d) (pos := pos) (af := af) (g := g) hc
    rw [ha] at hcc
    refine POk.value (s := Builtin.append_ c.argTypes ty #[s', x']) ?_ (by rw [hcc]; rfl)
    unfold aappend at hv
    split at hv
    · cases hv
    · rename_i elem dx hne hu hx
      unfold appAt at hv
      split at hv
      · rename_i size by' z n hs hby hz hln
        obtain ⟨ti, zv, hi, rfl, rfl, hzz, rfl⟩ := info_parts hs hby hz
        split at hv
        · rename_i hcnd
          have hzs : zv.cells.size = ti.size := by
            have := (VRel.ofV (μ := μ) zv).cells.length; simp at this; omega
          have hd : ∀ k, dx ≠ .int k := fun k hk => hne k hk
          split at hv
          · have := rs.lit_inv; subst this
            exact appNil_ok hv h0 h1 hu hx hd hi hzz hzs hcnd.2 hln I rx
          · exact appSl_ok hv h0 h1 hu hx hd hi hzz hzs hcnd.2 hln I rs rx
          · cases hv
        · cases hv
      · cases hv
    · cases hv
  · cases hv

theorem run_loadBytes {c : Nat} : ∀ (ns : List Int) (off : Nat) (acc : ByteArray), (∀ (j : Nat) v, (ns.map (Value.int .u8))[j]? = some v → w.cell? ⟨c, off + j, none⟩ = some v) →
    (loadBytes ⟨c, off, none⟩ acc ns.length).run C.P w = .ok ⟨acc.data ++ (ns.map fun n => UInt8.ofNat n.toNat).toArray⟩ w
  | [], off, acc, _ => by simp [loadBytes]
  | n :: ns, off, acc, h => by
    have h0 := h 0 (.int .u8 n) rfl
    simp only [Nat.add_zero] at h0
    have ih := run_loadBytes ns (off + 1) (acc.push (UInt8.ofNat n.toNat)) (fun j v hv => by have := h (j + 1) v (by simpa using hv); rwa [show off + (j + 1) = off + 1 + j by omega] at this)
    simp only [List.length_cons, loadBytes, Sem.run_bind, run_load, h0, Result.andThen_ok, add_mk]
    refine ih.trans ?_
    congr 2
    apply Array.ext'
    simp [ByteArray.push]
theorem freeze_heap {a : Addr} {n k : Nat} (hk : k ≠ a.block) : (w.freeze a n).heap[k]? = w.heap[k]? := by
  unfold World.freeze
  split
  · rfl
  · simp only [Array.getElem?_modify]; rw [if_neg (Ne.symm hk)]
theorem freeze_size {a : Addr} {n : Nat} : (w.freeze a n).heap.size = w.heap.size := by
  unfold World.freeze; split <;> simp
theorem freeze_block {a : Addr} {n : Nat} {cs : Array Value} {t : TypeId} {fr : Nat × Nat} (hb : w.heap[a.block]? = some (.cells cs t fr)) : ∃ fr', (w.freeze a n).heap[a.block]? = some (.cells cs t fr') := by
  unfold World.freeze
  split
  · exact ⟨fr, hb⟩
  · simp only [Array.getElem?_modify, if_true, hb, Option.map_some]
    exact ⟨_, rfl⟩
theorem shape_cells {c tot : Nat} {el : TypeId} (h : w.shape? c = some (el, tot)) : ∃ cs fr, w.heap[c]? = some (.cells cs el fr) ∧ cs.size = tot := by
  unfold World.shape? at h
  cases e : w.heap[c]? with
  | none => simp [e] at h
  | some o =>
    cases o <;> simp [e] at h
    obtain ⟨rfl, rfl⟩ := h
    exact ⟨_, _, rfl, rfl⟩
theorem wString_ok {c : Call} {ty : TypeId} {d : Option Tmp} {pos : String} {af : Array Edge} {g} {v : AV} {h' : H} {next' : Nat} (hc : c.callee = .builtin .unsafeString)
    (hv : wString C h next (evs ρ c.args.toList) c.argTypes[0]? = some (v, h', next')) (r : ER μ ρ e c.args.toList) (I : Inv C B w0 μ h next w) :
    WOk C B w0 μ h next w e ⟨d, .call c, ty, pos, af, g⟩ v h' next' := by
  unfold wString at hv
  split at hv
  · rename_i b off k n pt hl h0
    obtain ⟨p', n', rp, rn, ha⟩ := evs_two hl r
    obtain ⟨L, hL, rfl⟩ := rp.ptr_inv
    have := rn.lit_inv; subst this
    obtain ⟨cc, hcc⟩ := exec_builtin (e := e) (ty := ty) (d := d) (pos := pos) (af := af) (g := g) hc
    rw [ha] at hcc
    refine POk.value (s := Builtin.unsafeString_ c.argTypes ty #[.pointer (some ⟨L.c, off, none⟩), .int k (n : Int)]) ?_ (by rw [hcc]; rfl)
    split at hv
    · rename_i u cs nb el hu hg
      have hob := I.obj b L _ hL hg
      split at hv
      · rename_i hcond
        obtain ⟨g1, g2, g3, g4⟩ := hcond
        split at hv
        · rename_i l hrd
          obtain ⟨vs, r1, r2, r3⟩ := rdCells_ok hob.1 n off l hrd g2
          split at hv
          · rename_i bs hbs
            cases hv
            obtain ⟨ns, e1, e2⟩ := byteList_ok hbs r1
            have hln : ns.length = n := by rw [← r2, e1]; simp
            have hload := run_loadBytes (C := C) ns off ByteArray.empty (fun j v hv => r3 j v (by rw [e1]; exact hv))
            rw [hln] at hload
            have hlies : liesAt C.P C.P.depth el (L.tot / C.P.cellsOf el) off u n = true := liesAt_mono _ (Nat.div_le_div_right hob.2.1) g4
            obtain ⟨arr, fr, hb, hsz⟩ := shape_cells hob.2.2.1
            obtain ⟨fr', hb'⟩ := freeze_block (a := ⟨L.c, off, none⟩) (n := n) hb
            have cellsame : ∀ i, (w.freeze ⟨L.c, off, none⟩ n).cell? ⟨L.c, i, none⟩ = w.cell? ⟨L.c, i, none⟩ := fun i => by
              simp only [World.cell?, hb']; simp [hb]
            have I' := I.turn (ob' := .cells cs nb el true) (w' := w.freeze ⟨L.c, off, none⟩ n) hL hg rfl
              ⟨by unfold World.freeze; split <;> rfl, by unfold World.freeze; split <;> rfl, by unfold World.freeze; split <;> rfl, Nat.le_of_eq freeze_size.symm, fun k hk => freeze_heap (by have := I.own b L _ hL hg rfl; simp; omega)⟩
              (Nat.le_of_eq freeze_size.symm) (fun k hk _ => freeze_heap hk)
              ⟨fun i hi => by obtain ⟨a, v, q1, q2, q3⟩ := hob.1 i hi; exact ⟨a, v, q1, by rw [cellsame]; exact q2, q3⟩, hob.2.1, by simp only [World.shape?, hb', hsz], fun h => by cases h⟩
            refine ⟨.string ⟨bs.toArray⟩, _, μ, ?_, Ext.put hL, .lit _, I', Nat.le_refl _⟩
            have n0 : ¬ ((n : Int) < 0) := by omega
            have n1 : ¬ ((n : Int) > IntKind.i64.max) := by
              have : IntKind.i64.max = 9223372036854775807 := by decide
              rw [this]; omega
            have n2 : ¬ ((n : Int) = 0) := by omega
            have hel : (elemOf pt).run C.P w = .ok u w := by simp [elemOf, run_und hu]
            have hvar : (variablesAt ⟨L.c, off, none⟩ u n).run C.P w = .ok true w := by
              simp [variablesAt, run_program, run_shape, hob.2.2.1, hlies, Sem.run_bind]
            show (Bind.bind (asInt (.int k (n : Int))) _ : Sem Value).run C.P w = _
            have hai : asInt (.int k (n : Int)) = pure (n : Int) := rfl
            rw [hai]
            simp only [pure_bind, h0, n0, n1, n2, if_false, Sem.run_bind, hel, Result.andThen_ok, hvar, Int.toNat_natCast, Sem.run_pure, if_true, hload, run_freeze]
            congr 2
            rw [e2]; congr 1; simp
          · cases hv
        · cases hv
      · cases hv
    · cases hv
  · cases hv

theorem wCopy_ok {c : Call} {ty : TypeId} {d : Option Tmp} {pos : String} {af : Array Edge} {g} {v : AV} {h' : H} {next' : Nat} (hc : c.callee = .builtin .copy)
    (hv : wCopy C h next (evs ρ c.args.toList) c.argTypes[0]? = some (v, h', next')) (r : ER μ ρ e c.args.toList) (I : Inv C B w0 μ h next w) :
    WOk C B w0 μ h next w e ⟨d, .call c, ty, pos, af, g⟩ v h' next' := by
  unfold wCopy at hv
  split at hv
  · rename_i dd x dt hl h0
    obtain ⟨d', x', rd, rx, ha⟩ := evs_two hl r
    obtain ⟨cc, hcc⟩ := exec_builtin (e := e) (ty := ty) (d := d) (pos := pos) (af := af) (g := g) hc
    rw [ha] at hcc
    refine POk.value (s := Builtin.copy_ c.argTypes ty #[d', x']) ?_ (by rw [hcc]; rfl)
    split at hv
    · rename_i elem dl xl hu hdl hxl
      split at hv
      · rename_i size hs
        unfold wCopyTo at hv
        split at hv
        · rename_i cs hf
          obtain ⟨ws, q1, q2, q3, q4⟩ := firstC_ok hf I rx
          have q3' : (Builtin.firstCells size (Nat.min xl dl) x').run C.P w = .ok ws.toArray w := q3 0
          have hxl' := run_lenOf (C := C) hxl rx w
          split at hv
          · rename_i b off ln cp es ex
            obtain ⟨L, cap', hL, _, _, _, _, rfl⟩ := rd.sl_inv
            simp [lenOfAV] at hdl; subst hdl
            split at hv
            · rename_i h2 hst
              cases hv
              obtain ⟨p1, p2, ob, p3, p4⟩ := astoreCells_ok hst I hL q1
              refine ⟨.int .i64 (Nat.min xl ln : Nat), _, μ, ?_, by rw [p3]; exact Ext.put hL, .lit _, p2, Nat.le_refl _⟩
              simp [Builtin.copy_, h0, run_und hu, hxl', run_szT hs, q3', p1, goInt]
            · cases hv
          · rename_i a b
            have := rd.lit_inv; subst this
            simp [lenOfAV] at hdl; subst hdl
            cases hv
            refine ⟨.int .i64 (Nat.min xl a : Nat), w, μ, ?_, Ext.refl _ _ _, .lit _, I, Nat.le_refl _⟩
            simp [Builtin.copy_, h0, run_und hu, hxl', run_szT hs, q3', goInt]
          · cases hv
        · cases hv
      · cases hv
    · cases hv
  · cases hv

/-- **writing operations** -/
theorem evW_ok {o : Oper} {v : AV} {h' : H} {next' : Nat} (hv : evW C ρ h next o = some (v, h', next')) (r : ER μ ρ e o.op.operands.toList) (I : Inv C B w0 μ h next w) : WOk C B w0 μ h next w e o v h' next' := by
  obtain ⟨d, op, ty, pos, af, g⟩ := o
  unfold evW at hv
  cases op <;> simp only [actW] at hv <;> (try (cases hv; done))
  case store t a x => exact wStore_ok hv (by simpa [Op.operands] using r) I
  case mapUpdate t m k x =>
    obtain ⟨w', h1, h2, rfl, h4, h5⟩ := wUpdate_ok hv (by simpa [Op.operands] using r) I
    exact ⟨undef, w', .skip, μ, by simp [execOp, h1], .inr ⟨rfl, rfl⟩, h2, .tup .nil, h4, h5⟩
  case insert t m k x =>
    obtain ⟨w', h1, h2, rfl, h4, h5⟩ := wUpdate_ok hv (by simpa [Op.operands] using r) I
    exact ⟨undef, w', .skip, μ, by simp [execOp, h1], .inr ⟨rfl, rfl⟩, h2, .tup .nil, h4, h5⟩
  case mapEntry t m k => exact wEntry_ok hv (by simpa [Op.operands] using r) I
  case entryStore t m s x => exact wEntryStore_ok hv (by simpa [Op.operands] using r) I
  case next it str =>
    cases str with
    | true => exact wNext_ok hv (by simpa [Op.operands] using r) I
    | false => cases hv
  case call c =>
    unfold wCall at hv
    split at hv
    · rename_i b hc
      have r' : ER μ ρ e c.args.toList := by rw [call_operands hc] at r; exact r
      split at hv
      · exact wAppend_ok hc hv r' I
      · exact wString_ok hc hv r' I
      · exact wCopy_ok hc hv r' I
      · cases hv
    · cases hv
end
end Go.Ax
set_option linter.unusedVariables false
set_option linter.unusedSimpArgs false
namespace Go.Ax
open Go Go.RowKit

/-- the fence of all functions, in a round or outside -/
def wides (ro : Option Nat) : Fence := { Fence.wide with round := ro }
theorem wides_none : wides none = Fence.wide := rfl
theorem wides_in (l : Nat) : Fence.wide.inRound l = wides (some l) := rfl

def DRel (μ : Mu) : List Nat → List Deferred → Prop
  | [], [] => True
  | d :: l, D :: l' => (∃ L, μ d = some L ∧ D.target = .collected L.c) ∧ DRel μ l l'
  | _, _ => False
theorem DRel.mono {μ μ' : Mu} (hle : μ.le μ') : ∀ {l : List Nat} {l' : List Deferred}, DRel μ l l' → DRel μ' l l'
  | [], [], _ => trivial
  | d :: l, D :: l', h => ⟨let ⟨L, h1, h2⟩ := h.1; ⟨L, hle _ _ h1, h2⟩, DRel.mono hle h.2⟩
  | [], _ :: _, h => h.elim
  | _ :: _, [], h => h.elim

def RRel (μ : Mu) : Option Nat → Option Nat → Prop
  | none, none => True
  | some b, some l => ∃ L, μ b = some L ∧ L.c = l
  | _, _ => False
theorem RRel.mono {μ μ' : Mu} (hle : μ.le μ') {r : Option Nat} {l : Option Nat} (h : RRel μ r l) : RRel μ' r l := by
  cases r <;> cases l <;> simp only [RRel] at * 
  obtain ⟨L, h1, h2⟩ := h; exact ⟨L, hle _ _ h1, h2⟩

structure Good (C : Cfg) : Prop where
  mixed : C.P.follows .mixedOrders = true
  named : ∀ (k : Nat) (fn : Func), C.P.funcs[k]? = some fn → fn.body.isSome = true → (fn.name == "runtime.NumGoroutine") = false
  esc : ∀ v w, (callFunc C.esc #[v]).run C.P w = .ok (.value v) w

structure Post (C : Cfg) (B : Bd) (w0 : World) (μ : Mu) (h : H) (next : Nat) (h' : H) (next' : Nat) (μ' : Mu) (w' : World) : Prop where
  ext : Ext next μ h μ' h'
  le : next ≤ next'
  inv : Inv C B w0 μ' h' next' w'

def ROut (C : Cfg) (B : Bd) (w0 : World) (μ : Mu) (h : H) (next : Nat) (v : AV) (h' : H) (next' : Nat) (e : Ending) (w' : World) : Prop :=
  ∃ v' μ', e = .returned v' ∧ VRel μ' v v' ∧ Post C B w0 μ h next h' next' μ' w'

def CallOk (C : Cfg) (E : Eng) : Prop := ∀ B w0 f args h next v h' next', E.call f args h next = some (v, h', next') →
  ∀ μ w vs, Inv C B w0 μ h next w → VRels μ args vs → CallsIn Fence.wide 0 C.P f vs.toArray w (ROut C B w0 μ h next v h' next')

def YieldOk (C : Cfg) (E : Eng) : Prop := ∀ B w0 b args h next v h' next', callYield E b args h next = some (v, h', next') →
  ∀ μ w vs L, μ b = some L → Inv C B w0 μ h next w → VRels μ args vs →
    ∃ fn tmps assign body, (Instr.yield L.c vs.toArray).run C.P w = .ok (.round L.c fn tmps assign body) w ∧
      RoundIn Fence.wide 0 C.P L.c fn tmps assign body w (ROut C B w0 μ h next v h' next')

section
variable {C : Cfg} {E : Eng} {B : Bd} {w0 w : World} {μ : Mu} {h : H} {next : Nat} {ρ : Env} {a : Act} {ro : Option Nat}

theorem calls_wides {f : FuncId} {args : Array Value} {R : Ending → World → Prop} (hc : CallsIn Fence.wide 0 C.P f args w R) : CallsIn (wides ro) 0 C.P f args w R := hc
theorem round_wides {l : Nat} {f : FuncId} {tmps : Array Value} {as bd : Code} {R : Ending → World → Prop} (hc : RoundIn Fence.wide 0 C.P l f tmps as bd w R) : RoundIn (wides ro) 0 C.P l f tmps as bd w R := hc

theorem run_enter (G : Good C) {k : FuncId} {fn : Func} {c : Code} (hk : C.P.funcs[k]? = some fn) (hb : fn.body = some c) {args : Array Value} : (callFunc k args).run C.P w = .ok (.enter k args) w := by
  have := G.named k fn hk (by simp [hb])
  have h2 : ¬ fn.name = "runtime.NumGoroutine" := by simpa using this
  simp [callFunc, run_program, hk, h2, hb]

/-- an operation goes through: what is asked of the rest -/
theorem upon_value {o : Oper} {v' : Value} {nx : Next} {w' : World} {K : Act → World → Prop} {Q : Exit → Act → World → Prop}
    (hd : ∀ c, o.op ≠ .defer c) (hrun : (execOp a.eval o).run C.P w = .ok nx w') (hnx : nx = .value v' ∨ nx = .skip ∧ v' = undef) (hK : K (a.put o.dst v') w') : o.wpIn (wides ro) 0 C.P a w K Q := by
  refine ⟨fun _ _ => trivial, ?_⟩
  rw [Oper.semAt_eq _ _ _ hd, hrun]
  rcases hnx with rfl | ⟨rfl, rfl⟩ <;> exact hK

theorem exec_value {c : Call} {f : Operand} {ty : TypeId} {d : Option Tmp} {pos : String} {af : Array Edge} {g} (hc : c.callee = .value f) {e : Operand → Value} :
    execOp e ⟨d, .call c, ty, pos, af, g⟩ = (do let d ← Deferred.ofValue (e f) (c.args.map e); invoke d.target d.args) := by
  simp only [execOp, resolve, hc]

theorem callK_ok (hC : CallOk C E) (G : Good C) {k : FuncId} {as : List AV} {v : AV} {h' : H} {next' : Nat} (hv : callK C E k as h next = some (v, h', next')) (I : Inv C B w0 μ h next w) {vs : List Value} (r : VRels μ as vs) :
    (∃ v', (callFunc k vs.toArray).run C.P w = .ok (.value v') w ∧ VRel μ v v' ∧ h' = h ∧ next' = next) ∨
    ((callFunc k vs.toArray).run C.P w = .ok (.enter k vs.toArray) w ∧ CallsIn Fence.wide 0 C.P k vs.toArray w (ROut C B w0 μ h next v h' next')) := by
  unfold callK at hv
  split at hv
  · rename_i fn hk
    split at hv
    · rename_i c hb
      exact .inr ⟨run_enter G hk hb, hC _ _ _ _ _ _ _ _ _ hv _ _ _ I r⟩
    · rename_i hb
      left
      unfold callExt at hv
      split at hv
      · rename_i hesc
        have : k = C.esc := Nat.eq_of_beq_eq_true hesc
        subst this
        unfold oneArg at hv
        split at hv
        · cases hv
          cases r with | cons h1 h2 => cases h2; exact ⟨_, G.esc _ _, h1, rfl, rfl⟩
        · cases hv
      · split at hv
        · rename_i us hus
          have := litsOf_rel hus r; subst this
          split at hv
          · rename_i x hx
            cases hv
            cases hs : sev C.P (callFunc k vs.toArray) with
            | none => rw [hs] at hx; simp [nextVal] at hx
            | some nx =>
              rw [hs] at hx
              cases nx <;> simp [nextVal] at hx
              rename_i u
              subst hx
              exact ⟨u, sev_run _ _ _ hs _, VRel.ofV u, rfl, rfl⟩
          · cases hv
        · cases hv
  · cases hv

theorem VRel.fn_inv {f : Fn} {l k : List AV} {v : Value} (r : VRel μ (.fn f l k) v) : ∃ l' k' : List Value, v = .func f l'.toArray k'.toArray ∧ VRels μ l l' ∧ VRels μ k k' := by
  cases r with | fn f h1 h2 => exact ⟨_, _, rfl, h1, h2⟩
theorem VRel.yld_inv {b : Nat} {v : Value} (r : VRel μ (.yld b) v) : ∃ L, μ b = some L ∧ v = .func (.yield L.c) #[] #[] := by
  cases r with | yld h => exact ⟨_, h, rfl⟩

theorem opCall_ok (hC : CallOk C E) (hY : YieldOk C E) (G : Good C) {o : Oper} {v : AV} {h' : H} {next' : Nat} (hv : opCall C E ρ h next o = some (v, h', next')) (r : ER μ ρ a.eval o.op.operands.toList)
    (I : Inv C B w0 μ h next w) {K : Act → World → Prop} {Q : Exit → Act → World → Prop} (hK : ∀ v' w' μ', VRel μ' v v' → Post C B w0 μ h next h' next' μ' w' → K (a.put o.dst v') w') : o.wpIn (wides ro) 0 C.P a w K Q := by
  obtain ⟨d, op, ty, pos, af, g⟩ := o
  cases op <;> simp only [opCall] at hv <;> (try (cases hv; done))
  rename_i c
  split at hv
  · rename_i f hc
    have hop : (Op.call c).operands.toList = f :: c.args.toList := by simp [Op.operands, Call.operands, hc]
    rw [hop] at r
    unfold callV at hv
    split at hv
    · rename_i args hargs
      have ra : VRels μ args (c.args.toList.map a.eval) := evs_rel hargs (fun x hx => r x (List.mem_cons_of_mem _ hx))
      have harr : c.args.map a.eval = (c.args.toList.map a.eval).toArray := by rw [← Array.toList_map]
      split at hv
      · rename_i k first captured hf
        obtain ⟨l', k', hfe, r1, r2⟩ := (r f (by simp) _ hf).fn_inv
        have hall := (r1.append ra).append r2
        have hexec : ∀ w, (execOp a.eval ⟨d, .call c, ty, pos, af, g⟩).run C.P w = (callFunc k (l' ++ c.args.toList.map a.eval ++ k').toArray).run C.P w := by
          intro w
          rw [exec_value hc, hfe, harr]
          simp only [Deferred.ofValue, pure_bind, invoke, List.append_toArray]
        rcases callK_ok hC G hv I hall with ⟨v', e1, e2, rfl, rfl⟩ | ⟨e1, e2⟩
        · exact upon_value (v' := v') (by simp) ((hexec w).trans e1) (.inl rfl) (hK _ _ _ e2 ⟨Ext.refl _ _ _, Nat.le_refl _, I⟩)
        · refine ⟨fun _ _ => trivial, ?_⟩
          rw [Oper.semAt_eq _ _ _ (by simp), hexec, e1, Oper.uponIn_enter]
          refine ⟨fun hh => (by cases hh), CallsIn.mono (calls_wides e2) fun e w'' he => ?_⟩
          obtain ⟨v', μ', rfl, h1, h2⟩ := he
          exact hK _ _ _ h1 h2
      · rename_i b hf
        obtain ⟨L, hL, hfe⟩ := (r f (by simp) _ hf).yld_inv
        obtain ⟨fn, tmps, assign, body, e1, e2⟩ := hY _ _ _ _ _ _ _ _ _ hv _ _ _ _ hL I ra
        have hexec : (execOp a.eval ⟨d, .call c, ty, pos, af, g⟩).run C.P w = .ok (.round L.c fn tmps assign body) w := by
          rw [exec_value hc, hfe, harr]
          simp only [Deferred.ofValue, pure_bind, invoke]
          rw [show (#[] : Array Value) ++ (c.args.toList.map a.eval).toArray = (c.args.toList.map a.eval).toArray by simp]
          exact e1
        refine ⟨fun _ _ => trivial, ?_⟩
        rw [Oper.semAt_eq _ _ _ (by simp), hexec, Oper.uponIn_round]
        refine ⟨fun hh => (by cases hh), RoundIn.mono (round_wides e2) fun e w'' he => ?_⟩
        obtain ⟨v', μ', rfl, h1, h2⟩ := he
        exact hK _ _ _ h1 h2
      · cases hv
    · cases hv
  · cases hv

theorem evF_defer {o : Oper} {v : AV} (hv : evF C ρ h o = some v) : ∀ c, o.op ≠ .defer c := by
  intro c hc
  unfold evF at hv
  rw [show actF C o = ⟨fun _ _ => none⟩ from ?_] at hv
  · cases hv
  · obtain ⟨d, op, ty, pos, af, g⟩ := o; simp only at hc; subst hc; rfl
theorem evA_defer {o : Oper} {b : Nat} {v} (hv : evA C ρ o b = some v) : ∀ c, o.op ≠ .defer c := by
  intro c hc
  obtain ⟨d, op, ty, pos, af, g⟩ := o; simp only at hc; subst hc; cases hv
theorem evW_defer {o : Oper} {v} (hv : evW C ρ h next o = some v) : ∀ c, o.op ≠ .defer c := by
  intro c hc
  obtain ⟨d, op, ty, pos, af, g⟩ := o; simp only at hc; subst hc; cases hv

theorem opW_ok (hC : CallOk C E) (hY : YieldOk C E) (G : Good C) {o : Oper} {v : AV} {h' : H} {next' : Nat} (hv : opW C E ρ h next o = some (v, h', next')) (r : ER μ ρ a.eval o.op.operands.toList)
    (I : Inv C B w0 μ h next w) {K : Act → World → Prop} {Q : Exit → Act → World → Prop} (hK : ∀ v' w' μ', VRel μ' v v' → Post C B w0 μ h next h' next' μ' w' → K (a.put o.dst v') w') : o.wpIn (wides ro) 0 C.P a w K Q := by
  unfold opW at hv
  split at hv
  · obtain ⟨v', w', nx, μ', e1, e2, e3, e4, e5, e6⟩ := evW_ok hv r I
    exact upon_value (evW_defer hv) e1 e2 (hK _ _ _ e4 ⟨e3, e6, e5⟩)
  · exact opCall_ok hC hY G hv r I hK
  · cases hv

theorem opRun_ok (hC : CallOk C E) (hY : YieldOk C E) (G : Good C) {o : Oper} {v : AV} {h' : H} {next' : Nat} (hv : opRun C E ρ o h next = some (v, h', next')) (r : ER μ ρ a.eval o.op.operands.toList)
    (I : Inv C B w0 μ h next w) {K : Act → World → Prop} {Q : Exit → Act → World → Prop} (hK : ∀ v' w' μ', VRel μ' v v' → Post C B w0 μ h next h' next' μ' w' → K (a.put o.dst v') w') : o.wpIn (wides ro) 0 C.P a w K Q := by
  unfold opRun at hv
  split at hv
  · cases hf : evF C ρ h o with
    | none => rw [hf] at hv; cases hv
    | some x =>
      rw [hf] at hv; cases hv
      obtain ⟨v', e1, e2⟩ := evF_ok hf r I
      exact upon_value (evF_defer hf) e2 (.inl rfl) (hK _ _ _ e1 ⟨Ext.refl _ _ _, Nat.le_refl _, I⟩)
  · cases hf : evA C ρ o next with
    | none => rw [hf] at hv; cases hv
    | some x =>
      obtain ⟨ob, x⟩ := x
      rw [hf] at hv; cases hv
      have hm : μ next = none := I.fresh _ (Nat.le_refl _)
      obtain ⟨v', obj, tot, e1, e2, e3⟩ := evA_ok hf r (I.reserve ob) (Nat.lt_succ_self _) hm (by simp [T.get_put])
      refine upon_value (evA_defer hf) e2 (.inl rfl) (hK _ _ _ e1 ⟨⟨Mu.le_add hm _, fun b hb hn => ⟨?_, ?_⟩⟩, Nat.le_succ _, e3⟩)
      · rw [Mu.add_other _ _ (by omega)]; exact hn
      · rw [T.get_put, if_neg (by omega)]
  · obtain ⟨v', w', nx, μ', e1, e2, e3, e4, e5, e6⟩ := evW_ok hv r I
    exact upon_value (evW_defer hv) e1 e2 (hK _ _ _ e4 ⟨e3, e6, e5⟩)
  · exact opCall_ok hC hY G hv r I hK
end
end Go.Ax
set_option linter.unusedVariables false
set_option linter.unusedSimpArgs false
namespace Go.Ax
open Go Go.RowKit
section
variable {C : Cfg} {E : Eng} {B : Bd} {w0 w : World} {μ : Mu} {h : H} {next : Nat} {a : Act} {ro : Option Nat} {look : Nat → AV}

theorem env_er (hg : ∀ g, C.gl g = true → ∃ tot, μ g = some ⟨g, tot⟩) {xs : List Operand} (hl : ∀ t, Operand.tmp t ∈ xs → VRel μ (look t) (a.tmps.getD t undef)) : ER μ (env C look) a.eval xs := by
  intro x hx v hv
  unfold env opdOf at hv
  cases x with
  | tmp t => simp only at hv; cases hv; exact hl t hx
  | const u => simp only at hv; cases hv; exact VRel.ofV u
  | global g =>
    simp only at hv
    cases hgl : C.gl g with
    | false => rw [hgl] at hv; cases hv
    | true =>
      rw [hgl] at hv; cases hv
      obtain ⟨tot, ht⟩ := hg g hgl
      exact .ptr ht
  | func f => simp only at hv; cases hv; exact .fn (.func f) .nil .nil

theorem bool_of_rel {b : Bool} {v : Value} (r : VRel μ (.lit (.bool b)) v) : v = .bool b := by cases r; rfl
theorem rel_bool {x : AV} {b : Bool} (r : VRel μ x (.bool b)) : x = .lit (.bool b) := by cases r; rfl

theorem wantedA_eq {ops : Array Oper} {tmps : Array Value} {o : Oper}
    (hr : ∀ g want t, o.guard = some (g, want) → (ops[g]?).bind (·.dst) = some t → VRel μ (look t) (tmps.getD t undef)) : wantedA ops look o = Region.wanted o (yielded ops tmps) := by
  unfold wantedA Region.wanted
  cases hg : o.guard with
  | none => rfl
  | some gw =>
    obtain ⟨g, want⟩ := gw
    simp only
    have hy : yieldedA ops look g = yielded ops tmps g := by
      unfold yieldedA yielded
      cases hd : (ops[g]?).bind (·.dst) with
      | none => simp
      | some t =>
        have r := hr g want t hg hd
        simp only [Option.bind_some]
        cases hx : tmps[t]? with
        | none =>
          have hu : tmps.getD t undef = undef := by simp [Array.getD_eq_getD_getElem?, hx]
          rw [hu] at r
          simp only
          split
          · rename_i b hb; rw [hb] at r; have := bool_of_rel r; cases this
          · rfl
        | some v =>
          have hu : tmps.getD t undef = v := by simp [Array.getD_eq_getD_getElem?, hx]
          rw [hu] at r
          split
          · rename_i b hb; rw [hb] at r; have := bool_of_rel r; subst this; rfl
          · rename_i hn
            split
            · rename_i b hb; cases hb; exact absurd (rel_bool r) (hn b)
            · rfl
    rw [hy]
    cases yielded ops tmps g with
    | none => rfl
    | some b => cases b <;> cases want <;> rfl

theorem TRel.putDst {t : T AV} {nt : Nat} (r : TRel μ t nt a.tmps) {d : Option Tmp} (hd : ∀ x, d = some x → x < nt) {x : AV} {v : Value} (hv : VRel μ x v) : TRel μ (putDst t d x) nt (a.put d v).tmps := by
  cases d with
  | none => exact r
  | some d => exact r.put (hd d rfl) hv

def COut (C : Cfg) (B : Bd) (w0 : World) (μ : Mu) (st : St) (x : Exit) (st' : St) (e : Exit) (a' : Act) (w' : World) : Prop :=
  e = x ∧ ∃ μ', Post C B w0 μ st.h st.next st'.h st'.next μ' w' ∧ TRel μ' st'.tmps st'.nt a'.tmps ∧ DRel μ' st'.dfs a'.defers

theorem Post.refl (I : Inv C B w0 μ h next w) : Post C B w0 μ h next h next μ w := ⟨Ext.refl _ _ _, Nat.le_refl _, I⟩
theorem Post.trans {h1 h2 : H} {n1 n2 : Nat} {μ1 μ2 : Mu} {w1 w2 : World} (p : Post C B w0 μ h next h1 n1 μ1 w1) (q : Post C B w0 μ1 h1 n1 h2 n2 μ2 w2) : Post C B w0 μ h next h2 n2 μ2 w2 :=
  ⟨p.ext.trans p.le q.ext, Nat.le_trans p.le q.le, q.inv⟩

theorem put_defers (a : Act) (d : Option Tmp) (v : Value) : (a.put d v).defers = a.defers := by cases d <;> rfl

theorem dstOk_lt {nt : Nat} {o : Oper} (h : dstOk nt o = true) : ∀ x, o.dst = some x → x < nt := by
  intro x hx; unfold dstOk at h; rw [hx] at h; exact (Nat.blt_eq ▸ h)

theorem seqOps_ok (hC : CallOk C E) (hY : YieldOk C E) (G : Good C) {ops : Array Oper} {Q : Exit → Act → World → Prop} :
    ∀ (l : List Nat) (os : List Oper) (st st' : St), l.length = os.length → (∀ i o, (i, o) ∈ List.zip l os → ops[i]? = some o) →
      seqOps C E ops os st = some st' → ∀ (μ : Mu) (a : Act) (w : World), Inv C B w0 μ st.h st.next w → TRel μ st.tmps st.nt a.tmps → DRel μ st.dfs a.defers →
      (∀ a' w', COut C B w0 μ st .normal st' .normal a' w' → Q .normal a' w') → wpOpsIn (wides ro) 0 C.P ops Q l a w := by
  intro l
  induction l with
  | nil =>
    intro os st st' hlen _ hs μ a w I r d hQ
    cases os with
    | cons _ _ => simp at hlen
    | nil => simp only [seqOps] at hs; cases hs; exact hQ _ _ ⟨rfl, μ, Post.refl I, r, d⟩
  | cons i l ih =>
    intro os st st' hlen hmem hs μ a w I r d hQ
    cases os with
    | nil => simp at hlen
    | cons o os =>
      have ho : ops[i]? = some o := hmem i o (by simp)
      simp only [seqOps] at hs
      cases h1 : seqOp C E ops o st with
      | none => rw [h1] at hs; cases hs
      | some st1 =>
        rw [h1] at hs
        simp only at hs
        obtain ⟨tmps, nt, dfs, h, next⟩ := st
        simp only [wpOpsIn, ho]
        unfold seqOp at h1
        simp only at h1 I r d
        have ihh := fun μ a w => ih os st1 st' (by simpa using hlen) (fun i o hio => hmem i o (by simp [hio])) hs μ a w
        cases hd : dstOk nt o with
        | false => rw [hd] at h1; cases h1
        | true =>
          rw [hd] at h1
          simp only at h1
          have hw := wantedA_eq (μ := μ) (look := lookT tmps) (ops := ops) (tmps := a.tmps) (o := o) (fun g want t _ _ => r.2 t)
          rw [← hw]
          cases hwa : wantedA ops (lookT tmps) o with
          | false =>
            rw [hwa] at h1
            simp only at h1
            cases h1
            simp only [Bool.false_eq_true, if_false]
            exact ⟨fun _ _ => trivial, ihh μ _ w I (r.putDst (dstOk_lt hd) undef_rel) (by rw [put_defers]; exact d) hQ⟩
          | true =>
            rw [hwa] at h1
            simp only [if_true]
            simp only at h1
            cases hrun : opRun C E (env C (lookT tmps)) o h next with
            | none => rw [hrun] at h1; cases h1
            | some out =>
              obtain ⟨v, h', next'⟩ := out
              rw [hrun] at h1
              cases h1
              refine opRun_ok hC hY G hrun (env_er I.glob fun t _ => r.2 t) I fun v' w' μ' hv hp => ?_
              refine ihh μ' _ w' hp.inv ((r.mono hp.ext.le).putDst (dstOk_lt hd) hv) (by rw [put_defers]; exact d.mono hp.ext.le) fun a'' w'' hc => hQ _ _ ?_
              obtain ⟨_, μ'', p, r', d'⟩ := hc
              exact ⟨rfl, μ'', hp.trans p, r', d'⟩

theorem seq_region_ok (hC : CallOk C E) (hY : YieldOk C E) (G : Good C) {id : Nat} {ops : Array Oper} {st st' : St} (hs : seqOps C E ops ops.toList st = some st')
    (I : Inv C B w0 μ st.h st.next w) (r : TRel μ st.tmps st.nt a.tmps) (d : DRel μ st.dfs a.defers) : (Code.region id ops false).wpIn (wides ro) 0 C.P (COut C B w0 μ st .normal st') a w := by
  refine wpIn_region (seqOps_ok hC hY G (List.range ops.size) ops.toList st st' (by simp) ?_ hs μ a w I r d fun a' w' h => h)
  intro i o hio
  rw [List.mem_iff_getElem?] at hio
  obtain ⟨k, hk⟩ := hio
  rw [List.getElem?_zip_eq_some] at hk
  obtain ⟨h1, h2⟩ := hk
  have : i = k := by
    rw [List.getElem?_range (by by_cases hlt : k < ops.size; exact hlt; simp [hlt] at h1)] at h1
    exact (Option.some.inj h1).symm
  subst this
  simpa using h2
end
end Go.Ax
set_option linter.unusedVariables false
set_option linter.unusedSimpArgs false
namespace Go.Ax
open Go Go.RowKit
section
variable {C : Cfg} {ρ : Env} {h h' : H}

def Hle (h h' : H) : Prop := ∀ b x, h.get b = some x → h'.get b = some x

theorem aload_mono (m : Hle h h') {t b off v} (hv : aload C.P h t b off = some v) : aload C.P h' t b off = some v := by
  unfold aload at *
  split at hv
  · rename_i e; rw [m _ _ e]; exact hv
  · cases hv
theorem sliceArr_mono (m : Hle h h') {n elem b off lo hi mx v} (hv : sliceArr C h n elem b off lo hi mx = some v) : sliceArr C h' n elem b off lo hi mx = some v := by
  unfold sliceArr at *
  split at hv
  · rename_i e1 e2; rw [e1, m _ _ e2]; exact hv
  · cases hv
theorem aslice_mono (m : Hle h h') {t x lo hi mx v} (hv : aslice C h t x lo hi mx = some v) : aslice C h' t x lo hi mx = some v := by
  unfold aslice at *
  split at hv
  · exact hv
  · exact hv
  · exact sliceArr_mono m hv
  · cases hv
theorem convPtr_mono (m : Hle h h') {s d b off v} (hv : convPtr C h s d b off = some v) : convPtr C h' s d b off = some v := by
  unfold convPtr at *
  split at hv
  · rename_i e1 e2 e3; rw [e1, e2, m _ _ e3]; exact hv
  · rename_i e1 e2 e3; rw [e1, e2, m _ _ e3]; exact hv
  · cases hv
theorem convStr_mono (m : Hle h h') {s d b off len v} (hv : convStr C h s d b off len = some v) : convStr C h' s d b off len = some v := by
  unfold convStr at *
  split at hv
  · split at hv
    · rename_i e3 e4; simp only [e3, m _ _ e4]; exact hv
    · cases hv
  · cases hv
theorem fLookup_mono (m : Hle h h') {t x i ok v} (hv : fLookup C h t x i ok = some v) : fLookup C h' t x i ok = some v := by
  unfold fLookup at *
  split at hv
  · split at hv
    · rename_i e3 e4; simp only [m _ _ e3, e4]; exact hv
    · cases hv
  · cases hv
theorem fLen_mono (m : Hle h h') {o t l v} (hv : fLen C ρ h o t l = some v) : fLen C ρ h' o t l = some v := by
  unfold fLen at *
  split at hv
  · exact hv
  · exact hv
  · split at hv
    · split at hv
      · rename_i e1 e2; simp only [e1, m _ _ e2]; exact hv
      · cases hv
    · cases hv
  · exact hv
  · cases hv
theorem fSlice_mono (m : Hle h h') {o t x lo hi mx v} (hv : fSlice C ρ h o t x lo hi mx = some v) : fSlice C ρ h' o t x lo hi mx = some v := by
  unfold fSlice at *
  split at hv
  · exact hv
  · split at hv
    · exact aslice_mono m hv
    · cases hv
  · cases hv
theorem fConvert_mono (m : Hle h h') {o s d x v} (hv : fConvert C ρ h o s d x = some v) : fConvert C ρ h' o s d x = some v := by
  unfold fConvert at *
  split at hv
  · exact hv
  · exact hv
  · exact convPtr_mono m hv
  · exact convStr_mono m hv
  · cases hv
theorem fCall_mono (m : Hle h h') {o c v} (hv : fCall C ρ h o c = some v) : fCall C ρ h' o c = some v := by
  unfold fCall at *
  split at hv
  · split at hv <;> (first | exact fLen_mono m hv | exact hv | cases hv)
  · cases hv
theorem evF_mono (m : Hle h h') {o : Oper} {v : AV} (hv : evF C ρ h o = some v) : evF C ρ h' o = some v := by
  obtain ⟨d, op, ty, pos, af, g⟩ := o
  unfold evF at *
  cases op <;> simp only [actF] at hv ⊢ <;> (try exact hv)
  case load t a =>
    unfold fLoad at *
    split at hv
    · exact aload_mono m hv
    · cases hv
  case slice => exact fSlice_mono m hv
  case lookup => exact fLookup_mono m hv
  case convert => exact fConvert_mono m hv
  case call => exact fCall_mono m hv

theorem evF_indep {o : Oper} (hr : reads o = false) : evF C ρ h o = evF C ρ h' o := by
  obtain ⟨d, op, ty, pos, af, g⟩ := o
  unfold evF
  cases op <;> first | rfl | (simp [reads] at hr; done)
end
end Go.Ax
set_option linter.unusedVariables false
set_option linter.unusedSimpArgs false
namespace Go.Ax
open Go Go.RowKit

/-! ### masks -/
theorem maskOf_bit (m : T Nat) (d : Nat) : ∀ (l : List Edge) (s : Nat), (maskOf m l s).testBit d = true ↔ s.testBit d = true ∨ ∃ e ∈ l, Region.binds .any e = true ∧ (d = e.on ∨ ((m.get e.on).getD 0).testBit d = true) := by
  intro l
  induction l with
  | nil => intro s; simp [maskOf]
  | cons e l ih =>
    intro s
    unfold maskOf
    cases hb : Region.binds .any e with
    | false =>
      simp only
      rw [ih s]
      constructor
      · rintro (h | ⟨e', h1, h2⟩)
        · exact .inl h
        · exact .inr ⟨e', List.mem_cons_of_mem _ h1, h2⟩
      · rintro (h | ⟨e', h1, h2, h3⟩)
        · exact .inl h
        · rcases List.mem_cons.1 h1 with rfl | h1
          · rw [hb] at h2; cases h2
          · exact .inr ⟨e', h1, h2, h3⟩
    | true =>
      simp only
      rw [ih]
      have e1 : (Nat.lor (Nat.lor s (Nat.pow 2 e.on)) ((m.get e.on).getD 0)).testBit d = ((s.testBit d || decide (e.on = d)) || ((m.get e.on).getD 0).testBit d) := by
        show ((s ||| 2 ^ e.on) ||| ((m.get e.on).getD 0)).testBit d = _
        rw [Nat.testBit_or, Nat.testBit_or, Nat.testBit_two_pow]
      rw [e1]
      simp only [Bool.or_eq_true, decide_eq_true_eq]
      constructor
      · rintro (((h | h) | h) | ⟨e', h1, h2⟩)
        · exact .inl h
        · exact .inr ⟨e, by simp, hb, .inl h.symm⟩
        · exact .inr ⟨e, by simp, hb, .inr h⟩
        · exact .inr ⟨e', List.mem_cons_of_mem _ h1, h2⟩
      · rintro (h | ⟨e', h1, h2, h3⟩)
        · exact .inl (.inl (.inl h))
        · rcases List.mem_cons.1 h1 with rfl | h1
          · rcases h3 with h3 | h3
            · exact .inl (.inl (.inr h3.symm))
            · exact .inl (.inr h3)
          · exact .inr ⟨e', h1, h2, h3⟩

theorem masks_lt : ∀ (l : List Oper) (i : Nat) (m : T Nat) (k : Nat), k < i → (masks l i m).get k = m.get k := by
  intro l
  induction l with
  | nil => intro i m k _; rfl
  | cons o l ih => intro i m k hk; unfold masks; rw [ih _ _ _ (by omega), T.get_put, if_neg (by omega)]

theorem masks_get : ∀ (l : List Oper) (i : Nat) (m : T Nat) (k : Nat) (o : Oper), l[k]? = some o → (∀ j, i ≤ j → m.get j = none) →
    ∃ m', (masks l i m).get (i + k) = some (maskOf m' o.after.toList 0) ∧ ∀ j x, m'.get j = some x → (masks l i m).get j = some x := by
  intro l
  induction l with
  | nil => intro i m k o h; simp at h
  | cons o' l ih =>
    intro i m k o h hm
    unfold masks
    cases k with
    | zero =>
      simp at h; subst h
      refine ⟨m, by rw [masks_lt _ _ _ _ (by omega)]; simp [T.get_put], fun j x hx => ?_⟩
      have : j < i := by
        by_cases hj : j < i
        · exact hj
        · rw [hm j (by omega)] at hx; cases hx
      rw [masks_lt _ _ _ _ (by omega), T.get_put, if_neg (by omega)]; exact hx
    | succ k =>
      simp at h
      obtain ⟨m', h1, h2⟩ := ih (Nat.succ i) (m.put i (maskOf m o'.after.toList 0)) k o h (fun j hj => by rw [T.get_put, if_neg (by omega)]; exact hm j (by omega))
      exact ⟨m', by rw [show i + (k + 1) = Nat.succ i + k by omega]; exact h1, h2⟩

theorem masks_none : ∀ (l : List Oper) (i : Nat) (m : T Nat) (k : Nat), i + l.length ≤ k → (∀ j, i ≤ j → m.get j = none) → (masks l i m).get k = none := by
  intro l
  induction l with
  | nil => intro i m k hk hm; exact hm k (by simpa using hk)
  | cons o l ih =>
    intro i m k hk hm
    simp at hk
    unfold masks
    exact ih _ _ _ (by omega) (fun j hj => by rw [T.get_put, if_neg (by omega)]; exact hm j (by omega))

theorem get_e {α : Type} (i : Nat) : (T.e : T α).get i = none := by cases i <;> rfl

section
variable {ops : Array Oper}
theorem pred_direct {i : Nat} {o : Oper} (ho : ops[i]? = some o) {e : Edge} (he : e ∈ o.after) (hb : Region.binds .any e = true) : isPred (planOf ops) e.on i = true := by
  obtain ⟨m', h1, _⟩ := masks_get ops.toList 0 .e i o (by simpa using ho) (fun j _ => get_e j)
  unfold isPred predOf planOf
  rw [show (0 + i) = i by omega] at h1
  simp only [h1, Option.getD_some]
  exact (maskOf_bit m' e.on _ _).2 (.inr ⟨e, by simpa using he, hb, .inl rfl⟩)
theorem pred_spec {i d : Nat} (h : isPred (planOf ops) d i = true) : ∃ o, ops[i]? = some o ∧ ∃ e ∈ o.after, Region.binds .any e = true ∧ (d = e.on ∨ isPred (planOf ops) d e.on = true) := by
  cases ho : ops[i]? with
  | none =>
    have : ops.toList.length ≤ i := by rw [Array.getElem?_eq_none_iff] at ho; simpa using ho
    have := masks_none ops.toList 0 .e i (by omega) (fun j _ => get_e j)
    simp [isPred, predOf, planOf, this] at h
  | some o =>
    obtain ⟨m', h1, h2⟩ := masks_get ops.toList 0 .e i o (by simpa using ho) (fun j _ => get_e j)
    rw [show (0 + i) = i by omega] at h1
    unfold isPred predOf planOf at h
    simp only [h1, Option.getD_some] at h
    rcases (maskOf_bit m' d _ _).1 h with h | ⟨e, he, hb, h⟩
    · simp at h
    · refine ⟨o, rfl, e, by simpa using he, hb, ?_⟩
      rcases h with h | h
      · exact .inl h
      · right
        cases hm : m'.get e.on with
        | none => rw [hm] at h; simp at h
        | some x =>
          rw [hm] at h
          unfold isPred predOf planOf
          simp only [h2 _ _ hm]; exact h
end

/-! ### destinations -/
theorem dsts_spec : ∀ (l : List Oper) (i : Nat) (m : T Nat) (t d : Nat), (dsts l i m).get t = some d → m.get t = some d ∨ ∃ k o, d = i + k ∧ l[k]? = some o ∧ o.dst = some t := by
  intro l
  induction l with
  | nil => intro i m t d h; exact .inl h
  | cons o l ih =>
    intro i m t d h
    unfold dsts at h
    rcases ih _ _ _ _ h with hq | ⟨k, o', h1, h2, h3⟩
    · clear h
      cases hd : o.dst with
      | none => rw [hd] at hq; exact .inl hq
      | some x =>
        rw [hd] at hq
        simp only at hq
        rw [T.get_put] at hq
        split at hq
        · rename_i ht; rw [← ht] at hd; exact .inr ⟨0, o, by simpa using hq.symm, rfl, hd⟩
        · exact .inl hq
    · exact .inr ⟨k + 1, o', by omega, by simpa using h2, h3⟩
theorem dst_spec {ops : Array Oper} {t d : Nat} (h : (planOf ops).dst.get t = some d) : ∃ o, ops[d]? = some o ∧ o.dst = some t := by
  rcases dsts_spec ops.toList 0 .e t d h with h | ⟨k, o, h1, h2, h3⟩
  · rw [get_e] at h; cases h
  · exact ⟨o, by rw [h1]; simpa using h2, h3⟩

theorem tmpsOk_spec {p : Plan} {nt : Nat} : ∀ (l : List Oper) (i : Nat), tmpsOk p nt l i = true → ∀ (k : Nat) (o : Oper), l[k]? = some o → dstOk nt o = true ∧ dstIs p (i + k) o = true ∧ ∀ t ∈ tmpsRead p o, tmpOk p (i + k) t = true := by
  intro l
  induction l with
  | nil => intro i _ k o h; simp at h
  | cons o' l ih =>
    intro i hok k o h
    unfold tmpsOk at hok
    simp only [Bool.and_eq_true, List.all_eq_true] at hok
    obtain ⟨⟨⟨h1, h2⟩, h3⟩, h4⟩ := hok
    cases k with
    | zero => simp at h; subst h; exact ⟨h1, h2, h3⟩
    | succ k =>
      have := ih _ h4 k o (by simpa using h)
      rw [show i + (k + 1) = Nat.succ i + k by omega]; exact this

/-! ### done and ready -/
theorem setDone_bit (done i j : Nat) : (setDone done i).testBit j = (done.testBit j || decide (i = j)) := by
  show (done ||| 2 ^ i).testBit j = _
  rw [Nat.testBit_or, Nat.testBit_two_pow]
theorem ready_bits {p : Plan} {done i : Nat} (h : ready p done i = true) : ∀ d, isPred p d i = true → done.testBit d = true := by
  intro d hd
  have h1 := Nat.eq_of_beq_eq_true h
  have : (predOf p i &&& done).testBit d = true := by show (Nat.land (predOf p i) done).testBit d = true; rw [h1]; exact hd
  rw [Nat.testBit_and, Bool.and_eq_true] at this
  exact this.2
theorem bits_ready {p : Plan} {done i : Nat} (h : ∀ d, isPred p d i = true → done.testBit d = true) : ready p done i = true := by
  have : predOf p i &&& done = predOf p i := by
    apply Nat.eq_of_testBit_eq
    intro d
    rw [Nat.testBit_and]
    cases hd : (predOf p i).testBit d with
    | false => rfl
    | true => rw [h d hd]; rfl
  unfold ready
  rw [show Nat.land (predOf p i) done = predOf p i from this]
  exact Nat.beq_refl _
end Go.Ax
