import Derived.Test.YtnkoojgdbnhhnaaGreatDoorAxC
import Derived.OrdersIn
import Derived.RangeFuncRecord
set_option linter.unusedVariables false
set_option linter.unusedSimpArgs false
namespace Go.Ax
open Go Go.RowKit

noncomputable def cur (p : Plan) (tmps vals : T AV) (listed : Array Bool) (t : Nat) : AV :=
  match p.dst.get t with
  | some d => if listed.getD d false = true then valD vals d else lookT tmps t
  | none => lookT tmps t

def WF (p : Plan) (done : Nat) : Prop := ∀ L : Nat → Prop, (∃ i, done.testBit i = true ∧ ¬ L i) → ∃ j, done.testBit j = true ∧ ¬ L j ∧ ∀ d, isPred p d j = true → L d

theorem WF.step {p : Plan} {done i : Nat} (h : WF p done) (hp : ∀ d, isPred p d i = true → done.testBit d = true) : WF p (setDone done i) := by
  intro L ⟨x, hx, hxl⟩
  by_cases hall : ∃ y, done.testBit y = true ∧ ¬ L y
  · obtain ⟨j, h1, h2, h3⟩ := h L hall
    exact ⟨j, by rw [setDone_bit, h1]; rfl, h2, h3⟩
  · have hl : ∀ y, done.testBit y = true → L y := fun y hy => Classical.byContradiction fun hn => hall ⟨y, hy, hn⟩
    rw [setDone_bit, Bool.or_eq_true] at hx
    rcases hx with hx | hx
    · exact absurd (hl x hx) hxl
    · have : i = x := by simpa using hx
      subst this
      exact ⟨i, by rw [setDone_bit]; simp, hxl, fun d hd => hl d (hp d hd)⟩

def Pend (C : Cfg) (ops : Array Oper) (tmps vals : T AV) (early : List Nat) (h : H) (next : Nat) (μ : Mu) (b : Option Nat) (i : Nat) (o : Oper) : Prop :=
  (wantedA ops (lookR (planOf ops) tmps vals i) o = false ∧ valD vals i = .tup []) ∨
  (wantedA ops (lookR (planOf ops) tmps vals i) o = true ∧ evF C (env C (lookR (planOf ops) tmps vals i)) h o = some (valD vals i) ∧ (reads o = true → i ∈ early)) ∨
  (wantedA ops (lookR (planOf ops) tmps vals i) o = true ∧ ∃ k ob, b = some k ∧ evA C (env C (lookR (planOf ops) tmps vals i)) o k = some (ob, valD vals i) ∧ μ k = none ∧ h.get k = some ob ∧ k < next)

structure J (C : Cfg) (B : Bd) (w0 : World) (h0 : H) (n0 : Nat) (μ0 : Mu) (ops : Array Oper) (tmps : T AV) (nt : Nat) (dfs : List Nat)
    (vals : T AV) (done : Nat) (early : List Nat) (h : H) (next : Nat) (rem : List Nat) (listed : Array Bool) (bl : Nat → Option Nat) (μ : Mu) (a : Act) (w : World) : Prop where
  inv : Inv C B w0 μ h next w
  ext : Ext n0 μ0 h0 μ h
  le : n0 ≤ next
  size : listed.size = ops.size
  sub : ∀ i, listed.getD i false = true → done.testBit i = true
  clos : ∀ i, listed.getD i false = true → ∀ d, isPred (planOf ops) d i = true → listed.getD d false = true
  closD : ∀ i, done.testBit i = true → ∀ d, isPred (planOf ops) d i = true → done.testBit d = true
  wf : WF (planOf ops) done
  cover : ∀ i, i < ops.size → done.testBit i = true ∨ i ∈ rem
  rems : ∀ i ∈ rem, done.testBit i = false ∧ i < ops.size
  nodup : rem.Nodup
  doneN : ∀ i, done.testBit i = true → i < ops.size
  tsize : a.tmps.size = nt
  tmp : ∀ t, VRel μ (cur (planOf ops) tmps vals listed t) (a.tmps.getD t undef)
  dfr : DRel μ dfs a.defers
  pend : ∀ i, done.testBit i = true → listed.getD i false = false → ∃ o, ops[i]? = some o ∧ Pend C ops tmps vals early h next μ (bl i) i o
  blk : ∀ i b, done.testBit i = true → listed.getD i false = false → bl i = some b → n0 ≤ b ∧ b < next ∧ ∀ j, done.testBit j = true → listed.getD j false = false → bl j = some b → j = i

section
variable {C : Cfg} {E : Eng} {B : Bd} {w0 w : World} {h0 h : H} {n0 next : Nat} {μ0 μ : Mu} {ops : Array Oper} {tmps : T AV} {nt : Nat} {dfs : List Nat}
  {vals : T AV} {done : Nat} {early rem : List Nat} {listed : Array Bool} {bl : Nat → Option Nat} {a : Act} {ro : Option Nat}

theorem valD_put (vals : T AV) (i j : Nat) (v : AV) : valD (vals.put i v) j = if j = i then v else valD vals j := by
  unfold valD; rw [T.get_put]; by_cases e : j = i <;> simp [e]
theorem lookR_put {p : Plan} {i j : Nat} (hn : isPred p i j = false) (v : AV) : lookR p tmps (vals.put i v) j = lookR p tmps vals j := by
  funext t
  unfold lookR
  cases p.dst.get t with
  | none => rfl
  | some d =>
    simp only
    cases hd : isPred p d j with
    | false => rfl
    | true =>
      simp only
      rw [valD_put, if_neg (fun e => by rw [e, hn] at hd; cases hd)]

theorem getD_set {x : Bool} (i j : Nat) (hi : i < listed.size) : (listed.setIfInBounds i true).getD j x = if i = j then true else listed.getD j x := by
  simp only [Array.getD_eq_getD_getElem?, Array.getElem?_setIfInBounds]
  split
  · subst_vars; simp
  · rfl
theorem getD_tf {i : Nat} (hi : i < listed.size) (x y : Bool) : listed.getD i x = listed.getD i y := by
  simp [Array.getD_eq_getD_getElem?, hi]
theorem listed_lt {i : Nat} (h : listed.getD i false = true) : i < listed.size := by
  apply Classical.byContradiction; intro hn
  simp [Array.getD_eq_getD_getElem?, hn] at h

theorem J.perm {rem' : List Nat} (j : J C B w0 h0 n0 μ0 ops tmps nt dfs vals done early h next rem listed bl μ a w) (hp : rem.Perm rem') : J C B w0 h0 n0 μ0 ops tmps nt dfs vals done early h next rem' listed bl μ a w :=
  { j with cover := fun i hi => (j.cover i hi).imp id fun hm => hp.mem_iff.1 hm, rems := fun i hi => j.rems i (hp.mem_iff.2 hi), nodup := hp.nodup_iff.1 j.nodup }

/-- what is not done is not listed -/
theorem J.unl (j : J C B w0 h0 n0 μ0 ops tmps nt dfs vals done early h next rem listed bl μ a w) {i : Nat} (hi : done.testBit i = false) : listed.getD i false = false := by
  cases hl : listed.getD i false with
  | false => rfl
  | true => rw [j.sub i hl] at hi; cases hi

theorem cur_put {p : Plan} {i : Nat} (hl : listed.getD i false = false) (v : AV) : cur p tmps (vals.put i v) listed = cur p tmps vals listed := by
  funext t
  unfold cur
  cases p.dst.get t with
  | none => rfl
  | some d =>
    simp only
    split
    · rename_i hd; rw [valD_put, if_neg (fun e => by rw [e, hl] at hd; cases hd)]
    · rfl

/-- one more is done: what stays -/
theorem J.add {i : Nat} (j : J C B w0 h0 n0 μ0 ops tmps nt dfs vals done early h next (i :: rem) listed bl μ a w) (hr : ready (planOf ops) done i = true) {o : Oper} (ho : ops[i]? = some o)
    {v : AV} {early' : List Nat} {h' : H} {next' : Nat} {bi : Option Nat} (I' : Inv C B w0 μ h' next' w) (hx : Ext n0 μ0 h0 μ h') (hle : next ≤ next') (hm : Hle h h') (he : ∀ x ∈ early, x ∈ early')
    (hP : Pend C ops tmps (vals.put i v) early' h' next' μ bi i o) (hbi : ∀ b, bi = some b → next ≤ b ∧ b < next') :
    J C B w0 h0 n0 μ0 ops tmps nt dfs (vals.put i v) (setDone done i) early' h' next' rem listed (fun x => if x = i then bi else bl x) μ a w := by
  have hnd : done.testBit i = false := (j.rems i (by simp)).1
  have hnl := j.unl hnd
  have hii : i < ops.size := (Array.getElem?_eq_some_iff.1 ho).1
  have hnr : i ∉ rem := (List.nodup_cons.1 j.nodup).1
  have hpr := ready_bits hr
  have hold : ∀ x, x ≠ i → (setDone done i).testBit x = done.testBit x := fun x hx => by rw [setDone_bit]; simp [Ne.symm hx]
  have hnp : ∀ x, done.testBit x = true → isPred (planOf ops) i x = false := fun x hx => by
    cases hh : isPred (planOf ops) i x with
    | false => rfl
    | true => rw [j.closD x hx i hh] at hnd; cases hnd
  refine { inv := I', ext := hx, le := Nat.le_trans j.le hle, size := j.size, sub := ?_, clos := j.clos, closD := ?_, wf := j.wf.step hpr, cover := ?_, rems := ?_, nodup := (List.nodup_cons.1 j.nodup).2, doneN := ?_, tsize := j.tsize, tmp := ?_, dfr := j.dfr, pend := ?_, blk := ?_ }
  · intro x hxl; rw [setDone_bit, j.sub x hxl]; rfl
  · intro x hxd d hd
    by_cases e : x = i
    · subst e; rw [setDone_bit, hpr d hd]; rfl
    · rw [hold x e] at hxd; rw [setDone_bit, j.closD x hxd d hd]; rfl
  · intro x hx
    rcases j.cover x hx with h | h
    · exact .inl (by rw [setDone_bit, h]; rfl)
    · rcases List.mem_cons.1 h with rfl | h
      · exact .inl (by rw [setDone_bit]; simp)
      · exact .inr h
  · intro x hx
    have : x ≠ i := fun e => hnr (e ▸ hx)
    rw [hold x this]; exact j.rems x (List.mem_cons_of_mem _ hx)
  · intro x hx
    by_cases e : x = i
    · subst e; exact hii
    · rw [hold x e] at hx; exact j.doneN x hx
  · rw [cur_put hnl]; exact j.tmp
  · intro x hxd hxl
    by_cases e : x = i
    · subst e; exact ⟨o, ho, by simpa using hP⟩
    · rw [hold x e] at hxd
      obtain ⟨o', h1, h2⟩ := j.pend x hxd hxl
      refine ⟨o', h1, ?_⟩
      simp only [if_neg e]
      unfold Pend at *
      rw [lookR_put (hnp x hxd), valD_put, if_neg e]
      rcases h2 with h2 | ⟨g1, g2, g3⟩ | ⟨g1, k, ob, g2, g3, g4, g5, g6⟩
      · exact .inl h2
      · exact .inr (.inl ⟨g1, evF_mono hm g2, fun hr => he _ (g3 hr)⟩)
      · exact .inr (.inr ⟨g1, k, ob, g2, g3, g4, hm _ _ g5, by omega⟩)
  · intro x b hxd hxl hb
    have hle0 := j.le
    by_cases e : x = i
    · subst e
      simp at hb
      obtain ⟨q1, q2⟩ := hbi b hb
      refine ⟨by omega, q2, fun y hy hyl hby => ?_⟩
      by_cases e2 : y = x
      · exact e2
      · rw [hold y e2] at hy
        simp only [if_neg e2] at hby
        have := (j.blk y b hy hyl hby).2.1
        omega
    · simp only [if_neg e] at hb
      rw [hold x e] at hxd
      obtain ⟨q1, q2, q3⟩ := j.blk x b hxd hxl hb
      refine ⟨q1, by omega, fun y hy hyl hby => ?_⟩
      by_cases e2 : y = i
      · subst e2
        simp at hby
        have := (hbi b hby).1
        omega
      · simp only [if_neg e2] at hby
        rw [hold y e2] at hy
        exact q3 y hy hyl hby

theorem absI_J {s s1 : RSt} {i : Nat} (j : J C B w0 h0 n0 μ0 ops tmps nt dfs s.vals s.done s.early s.h s.next (i :: rem) listed bl μ a w) (hv : absI C (planOf ops) tmps s i = some s1) :
    ∃ bl', J C B w0 h0 n0 μ0 ops tmps nt dfs s1.vals s1.done s1.early s1.h s1.next rem listed bl' μ a w := by
  obtain ⟨vals, done, early, h, next⟩ := s
  unfold absI at hv
  simp only at hv j
  cases hr : ready (planOf ops) done i with
  | false => rw [hr] at hv; cases hv
  | true =>
    rw [hr] at hv
    simp only at hv
    have hpo : (planOf ops).ops = ops := rfl
    rw [hpo] at hv
    cases ho : ops[i]? with
    | none => rw [ho] at hv; cases hv
    | some o =>
      rw [ho] at hv
      simp only at hv
      have hnd : done.testBit i = false := (j.rems i (by simp)).1
      have hself : isPred (planOf ops) i i = false := by
        cases hh : isPred (planOf ops) i i with
        | false => rfl
        | true => rw [ready_bits hr i hh] at hnd; cases hnd
      unfold abs1 at hv
      simp only [hpo] at hv
      cases hw : wantedA ops (lookR (planOf ops) tmps vals i) o with
      | false =>
        rw [hw] at hv
        simp only [absN] at hv
        cases hv
        refine ⟨_, j.add hr ho (bi := none) j.inv j.ext (Nat.le_refl _) (fun _ _ h => h) (fun _ h => h) (.inl ⟨?_, ?_⟩) (fun _ hb => by cases hb)⟩
        · rw [lookR_put hself]; exact hw
        · rw [valD_put, if_pos rfl]
      | true =>
        rw [hw] at hv
        simp only at hv
        split at hv
        · cases hf : evF C (env C (lookR (planOf ops) tmps vals i)) h o with
          | none => rw [hf] at hv; cases hv
          | some v =>
            rw [hf] at hv
            simp only [absF] at hv
            cases hv
            refine ⟨_, j.add hr ho (bi := none) j.inv j.ext (Nat.le_refl _) (fun _ _ h => h) (fun x hx => ?_) (.inr (.inl ⟨?_, ?_, ?_⟩)) (fun _ hb => by cases hb)⟩
            · split
              · exact List.mem_cons_of_mem _ hx
              · exact hx
            · rw [lookR_put hself]; exact hw
            · rw [lookR_put hself, valD_put, if_pos rfl]; exact hf
            · intro hrd; simp [hrd]
        · cases hf : evA C (env C (lookR (planOf ops) tmps vals i)) o next with
          | none => rw [hf] at hv; cases hv
          | some ov =>
            obtain ⟨ob, v⟩ := ov
            rw [hf] at hv
            simp only [absA] at hv
            split at hv
            · rename_i hg
              cases hv
              have hle := j.le
              refine ⟨_, j.add hr ho (bi := some next) (j.inv.reserve ob) ⟨j.ext.le, fun b hb hn => ?_⟩ (Nat.le_succ _) (fun b x hx => ?_) (fun _ h => h) (.inr (.inr ⟨?_, next, ob, rfl, ?_, j.inv.fresh _ (Nat.le_refl _), ?_, Nat.lt_succ_self _⟩)) (fun b hb => by cases hb; exact ⟨Nat.le_refl _, Nat.lt_succ_self _⟩)⟩
              · obtain ⟨q1, q2⟩ := j.ext.kept b hb hn
                exact ⟨q1, by rw [T.get_put, if_neg (by omega)]; exact q2⟩
              · rw [T.get_put, if_neg (fun e => by rw [e, hg] at hx; cases hx)]; exact hx
              · rw [lookR_put hself]; exact hw
              · rw [lookR_put hself, valD_put, if_pos rfl]; exact hf
              · simp [T.get_put]
            · cases hv
        · cases hv

theorem absorb_J : ∀ (l : List Nat) (s s1 : RSt) (keep keep1 : List Nat) (bl : Nat → Option Nat), absorb C (planOf ops) tmps l s keep = (s1, keep1) →
    J C B w0 h0 n0 μ0 ops tmps nt dfs s.vals s.done s.early s.h s.next (l ++ keep) listed bl μ a w → ∃ bl', J C B w0 h0 n0 μ0 ops tmps nt dfs s1.vals s1.done s1.early s1.h s1.next keep1 listed bl' μ a w := by
  intro l
  induction l with
  | nil => intro s s1 keep keep1 bl hv j; simp only [absorb] at hv; cases hv; exact ⟨bl, j⟩
  | cons i l ih =>
    intro s s1 keep keep1 bl hv j
    unfold absorb at hv
    cases hi : absI C (planOf ops) tmps s i with
    | none =>
      rw [hi] at hv
      exact ih _ _ _ _ bl hv (j.perm (by simpa using List.perm_middle.symm))
    | some s2 =>
      rw [hi] at hv
      obtain ⟨bl', j'⟩ := absI_J (rem := l ++ keep) j hi
      exact ih _ _ _ _ bl' hv j'
end
end Go.Ax
set_option linter.unusedVariables false
set_option linter.unusedSimpArgs false
namespace Go.Ax
open Go Go.RowKit

section
variable {C : Cfg} {E : Eng} {B : Bd} {w0 w : World} {h0 h : H} {n0 next : Nat} {μ0 μ : Mu} {ops : Array Oper} {tmps : T AV} {nt : Nat} {dfs : List Nat}
  {vals : T AV} {done : Nat} {early rem : List Nat} {listed : Array Bool} {bl : Nat → Option Nat} {a : Act} {ro : Option Nat}

def TOk (ops : Array Oper) (nt : Nat) : Prop := ∀ i o, ops[i]? = some o → dstOk nt o = true ∧ dstIs (planOf ops) i o = true ∧ ∀ t ∈ tmpsRead (planOf ops) o, tmpOk (planOf ops) i t = true
theorem tok_of (h : tmpsOk (planOf ops) nt ops.toList 0 = true) : TOk ops nt := by
  intro i o ho
  have := tmpsOk_spec ops.toList 0 h i o (by simpa using ho)
  rwa [show 0 + i = i by omega] at this

theorem J.readyL (j : J C B w0 h0 n0 μ0 ops tmps nt dfs vals done early h next rem listed bl μ a w) {i : Nat} (hi : i ∈ Region.ready .any ops listed) :
    listed.getD i false = false ∧ i < ops.size ∧ (∃ o, ops[i]? = some o) ∧ ∀ d, isPred (planOf ops) d i = true → listed.getD d false = true := by
  obtain ⟨h1, o, h2, h3⟩ := mem_ready.1 hi
  have hlt : i < ops.size := (Array.getElem?_eq_some_iff.1 h2).1
  refine ⟨by rw [getD_tf (by rw [j.size]; exact hlt) false true]; exact h1, hlt, ⟨o, h2⟩, fun d hd => ?_⟩
  obtain ⟨o', g1, e, g2, g3, g4⟩ := pred_spec hd
  rw [h2] at g1; cases g1
  rcases g4 with rfl | g4
  · exact h3 e g2 g3
  · exact j.clos _ (h3 e g2 g3) d g4

theorem look_eq (clos : ∀ i, listed.getD i false = true → ∀ d, isPred (planOf ops) d i = true → listed.getD d false = true) {i : Nat} {o : Oper} (hT : TOk ops nt) (ho : ops[i]? = some o) (hl : listed.getD i false = false) (hp : ∀ d, isPred (planOf ops) d i = true → listed.getD d false = true)
    {t : Nat} (ht : t ∈ tmpsRead (planOf ops) o) : lookR (planOf ops) tmps vals i t = cur (planOf ops) tmps vals listed t := by
  have h3 := (hT i o ho).2.2 t ht
  unfold tmpOk at h3
  unfold lookR cur
  cases hd : (planOf ops).dst.get t with
  | none => rfl
  | some d =>
    rw [hd] at h3
    simp only [Bool.or_eq_true] at h3
    simp only
    cases hpd : isPred (planOf ops) d i with
    | true => rw [if_pos (hp d hpd)]
    | false =>
      simp only
      have : listed.getD d false = false := by
        cases hld : listed.getD d false with
        | false => rfl
        | true =>
          rcases h3 with (h3 | h3) | h3
          · have := Nat.eq_of_beq_eq_true h3; rw [this, hl] at hld; cases hld
          · rw [hpd] at h3; cases h3
          · rw [clos d hld i h3] at hl; cases hl
      rw [if_neg (by rw [this]; simp)]

theorem tmp_step {i : Nat} {o : Oper} (hsz : listed.size = ops.size) (hT : TOk ops nt) (ho : ops[i]? = some o) (tm : ∀ t, VRel μ (cur (planOf ops) tmps vals listed t) (a.tmps.getD t undef)) (ts : a.tmps.size = nt) {μ' : Mu} (hle : μ.le μ')
    {vals' : T AV} (hvals : ∀ d, listed.getD d false = true → d ≠ i → valD vals' d = valD vals d) {v' : Value} (hv : VRel μ' (valD vals' i) v') :
    (a.put o.dst v').tmps.size = nt ∧ ∀ t, VRel μ' (cur (planOf ops) tmps vals' (listed.setIfInBounds i true) t) ((a.put o.dst v').tmps.getD t undef) := by
  have hlt : i < listed.size := by rw [hsz]; exact (Array.getElem?_eq_some_iff.1 ho).1
  obtain ⟨h1, h2, _⟩ := hT i o ho
  refine ⟨by cases o.dst <;> simp [Act.put, ts], fun t => ?_⟩
  by_cases ht : o.dst = some t
  · have hd : (planOf ops).dst.get t = some i := by
      unfold dstIs at h2; rw [ht] at h2; simp only at h2
      split at h2
      · rename_i j hj; rw [hj, Nat.eq_of_beq_eq_true h2]
      · cases h2
    unfold cur
    rw [hd]
    simp only [getD_set i i hlt, if_true]
    have hlt2 : t < a.tmps.size := by rw [ts]; exact dstOk_lt h1 t ht
    have : (a.put o.dst v').tmps.getD t undef = v' := by rw [ht]; simp [Act.put, Array.getD_eq_getD_getElem?, hlt2]
    rw [this]; exact hv
  · have hne : (planOf ops).dst.get t ≠ some i := fun e => by
      obtain ⟨o', g1, g2⟩ := dst_spec e
      rw [ho] at g1; cases g1; exact ht g2
    have : (a.put o.dst v').tmps.getD t undef = a.tmps.getD t undef := by
      cases hd : o.dst with
      | none => rfl
      | some x =>
        have : x ≠ t := fun e => ht (by rw [hd, e])
        simp [Act.put, Array.getD_eq_getD_getElem?, Array.getElem?_setIfInBounds, this]
    rw [this]
    have hc : cur (planOf ops) tmps vals' (listed.setIfInBounds i true) t = cur (planOf ops) tmps vals listed t := by
      unfold cur
      cases hd : (planOf ops).dst.get t with
      | none => rfl
      | some d =>
        have hdi : d ≠ i := fun e => hne (by rw [hd, e])
        simp only [getD_set i d hlt, if_neg (Ne.symm hdi)]
        split
        · rename_i hl; exact hvals d hl hdi
        · rfl
    rw [hc]; exact (tm t).mono hle

theorem J.clos_step (j : J C B w0 h0 n0 μ0 ops tmps nt dfs vals done early h next rem listed bl μ a w) {i : Nat} (hi : i < ops.size) (hp : ∀ d, isPred (planOf ops) d i = true → listed.getD d false = true) :
    ∀ x, (listed.setIfInBounds i true).getD x false = true → ∀ d, isPred (planOf ops) d x = true → (listed.setIfInBounds i true).getD d false = true := by
  intro x hx d hd
  have hlt : i < listed.size := by rw [j.size]; exact hi
  rw [getD_set _ _ hlt] at hx ⊢
  split
  · rfl
  · split at hx
    · subst_vars; exact hp d hd
    · exact j.clos x hx d hd

/-- one that was done before is listed now -/
theorem J.list (j : J C B w0 h0 n0 μ0 ops tmps nt dfs vals done early h next rem listed bl μ a w) (hT : TOk ops nt) {i : Nat} {o : Oper} (ho : ops[i]? = some o) (hd : done.testBit i = true) (hnl : listed.getD i false = false)
    (hp : ∀ d, isPred (planOf ops) d i = true → listed.getD d false = true) {μ' : Mu} {w' : World} {v' : Value} (I' : Inv C B w0 μ' h next w') (hle : μ.le μ') (hμ : ∀ b, bl i ≠ some b → μ b = none → μ' b = none) (hv : VRel μ' (valD vals i) v') :
    J C B w0 h0 n0 μ0 ops tmps nt dfs vals done early h next rem (listed.setIfInBounds i true) bl μ' (a.put o.dst v') w' := by
  have hii : i < ops.size := (Array.getElem?_eq_some_iff.1 ho).1
  have hlt : i < listed.size := by rw [j.size]; exact hii
  obtain ⟨t1, t2⟩ := tmp_step j.size hT ho j.tmp j.tsize hle (fun _ _ _ => rfl) hv
  have un : ∀ x, (listed.setIfInBounds i true).getD x false = false → x ≠ i ∧ listed.getD x false = false := fun x hx => by
    rw [getD_set _ _ hlt] at hx
    split at hx
    · cases hx
    · rename_i hne; exact ⟨Ne.symm hne, hx⟩
  refine { inv := I', ext := ⟨j.ext.le.trans hle, fun b hb hn => ?_⟩, le := j.le, size := by simp [j.size], sub := ?_, clos := j.clos_step hii hp, closD := j.closD, wf := j.wf, cover := j.cover, rems := j.rems, nodup := j.nodup, doneN := j.doneN, tsize := t1, tmp := t2, dfr := by rw [put_defers]; exact j.dfr.mono hle, pend := ?_, blk := ?_ }
  · obtain ⟨q1, q2⟩ := j.ext.kept b hb hn
    refine ⟨hμ b (fun e => ?_) q1, q2⟩
    have := (j.blk i b hd hnl e).1
    omega
  · intro x hx
    rw [getD_set _ _ hlt] at hx
    split at hx
    · subst_vars; exact hd
    · exact j.sub x hx
  · intro x hxd hxl
    obtain ⟨hne, hxl⟩ := un x hxl
    obtain ⟨o', g1, g2⟩ := j.pend x hxd hxl
    refine ⟨o', g1, ?_⟩
    rcases g2 with g2 | g2 | ⟨q1, k, ob, q2, q3, q4, q5, q6⟩
    · exact .inl g2
    · exact .inr (.inl g2)
    · refine .inr (.inr ⟨q1, k, ob, q2, q3, hμ k (fun e => ?_) q4, q5, q6⟩)
      exact hne ((j.blk i k hd hnl e).2.2 x hxd hxl q2)
  · intro x b hxd hxl hb
    obtain ⟨hne, hxl⟩ := un x hxl
    obtain ⟨q1, q2, q3⟩ := j.blk x b hxd hxl hb
    exact ⟨q1, q2, fun y hy hyl hby => q3 y hy (un y hyl).2 hby⟩

/-- the operation's own reads, held against the temporaries -/
theorem J.reads (j : J C B w0 h0 n0 μ0 ops tmps nt dfs vals done early h next rem listed bl μ a w) (hT : TOk ops nt) {i : Nat} {o : Oper} (ho : ops[i]? = some o) (hnl : listed.getD i false = false)
    (hp : ∀ d, isPred (planOf ops) d i = true → listed.getD d false = true) :
    wantedA ops (lookR (planOf ops) tmps vals i) o = Region.wanted o (yielded ops a.tmps) ∧ ER μ (env C (lookR (planOf ops) tmps vals i)) a.eval o.op.operands.toList := by
  refine ⟨wantedA_eq (μ := μ) fun g want t hg ht => ?_, env_er j.inv.glob fun t ht => ?_⟩
  · rw [look_eq j.clos hT ho hnl hp]
    · exact j.tmp t
    · unfold tmpsRead
      refine List.mem_append_right _ ?_
      rw [hg]
      show t ∈ ((ops[g]?).bind (·.dst)).toList
      rw [ht]; simp
  · rw [look_eq j.clos hT ho hnl hp]
    · exact j.tmp t
    · unfold tmpsRead
      exact List.mem_append_left _ (List.mem_filterMap.2 ⟨.tmp t, ht, rfl⟩)

/-- one that is done in the abstract, and comes up -/
theorem J.pend_step (j : J C B w0 h0 n0 μ0 ops tmps nt dfs vals done early h next rem listed bl μ a w) (hT : TOk ops nt) {i : Nat} (hr : i ∈ Region.ready .any ops listed) (hd : done.testBit i = true)
    {K : Act → World → Prop} {Q : Exit → Act → World → Prop} (hK : ∀ a' w' μ', J C B w0 h0 n0 μ0 ops tmps nt dfs vals done early h next rem (listed.setIfInBounds i true) bl μ' a' w' → K a' w') :
    wpOpIn (wides ro) 0 C.P ops Q i K a w := by
  obtain ⟨hnl, hii, _, hp⟩ := j.readyL hr
  obtain ⟨o, ho, hP⟩ := j.pend i hd hnl
  obtain ⟨hw, er⟩ := j.reads hT ho hnl hp
  unfold wpOpIn
  rw [ho]
  simp only [← hw]
  rcases hP with ⟨q1, q2⟩ | ⟨q1, q2, _⟩ | ⟨q1, k, ob, q2, q3, q4, q5, q6⟩
  · rw [q1, if_neg (by simp)]
    exact ⟨fun _ _ => trivial, hK _ _ _ (j.list hT ho hd hnl hp j.inv (Mu.le.refl _) (fun _ _ h => h) (by rw [q2]; exact undef_rel))⟩
  · rw [q1, if_pos rfl]
    obtain ⟨v', e1, e2⟩ := evF_ok q2 er j.inv
    exact upon_value (evF_defer q2) e2 (.inl rfl) (hK _ _ _ (j.list hT ho hd hnl hp j.inv (Mu.le.refl _) (fun _ _ h => h) e1))
  · rw [q1, if_pos rfl]
    obtain ⟨v', obj, tot, e1, e2, e3⟩ := evA_ok q3 er j.inv q6 q4 q5
    refine upon_value (evA_defer q3) e2 (.inl rfl) (hK _ _ _ (j.list hT ho hd hnl hp e3 (Mu.le_add q4 _) (fun b hb hn => ?_) e1))
    rw [Mu.add_other _ _ (fun e => hb (by rw [q2, e]))]; exact hn

theorem still_spec {p : Plan} : ∀ (l : List Nat), still C p tmps vals h l = true → ∀ i ∈ l, still1 C p tmps vals h i = true := by
  intro l
  induction l with
  | nil => intro _ i hi; cases hi
  | cons x l ih =>
    intro hs i hi
    unfold still at hs
    cases hx : still1 C p tmps vals h x with
    | false => rw [hx] at hs; cases hs
    | true =>
      rw [hx] at hs
      rcases List.mem_cons.1 hi with rfl | hi
      · exact hx
      · exact ih hs i hi

/-- a write, or a call, has been made -/
theorem J.write (j : J C B w0 h0 n0 μ0 ops tmps nt dfs vals done early h next rem listed bl μ a w) (hT : TOk ops nt) {i : Nat} {o : Oper} (ho : ops[i]? = some o) (hd : done.testBit i = false)
    (hp : ∀ d, isPred (planOf ops) d i = true → listed.getD d false = true) {v : AV} {h' : H} {next' : Nat} (hs : still C (planOf ops) tmps vals h' (early.filter fun j => Bool.not (isPred (planOf ops) j i)) = true)
    {μ' : Mu} {w' : World} {v' : Value} (hv : VRel μ' v v') (hP : Post C B w0 μ h next h' next' μ' w') {rem' : List Nat} (hrem : ∀ x, x ∈ rem' ↔ x ∈ rem ∧ x ≠ i) (hnd : rem'.Nodup) :
    J C B w0 h0 n0 μ0 ops tmps nt dfs (vals.put i v) (setDone done i) (early.filter fun j => Bool.not (isPred (planOf ops) j i)) h' next' rem' (listed.setIfInBounds i true) bl μ' (a.put o.dst v') w' := by
  have hnl := j.unl hd
  have hii : i < ops.size := (Array.getElem?_eq_some_iff.1 ho).1
  have hlt : i < listed.size := by rw [j.size]; exact hii
  have hold : ∀ x, x ≠ i → (setDone done i).testBit x = done.testBit x := fun x hx => by rw [setDone_bit]; simp [Ne.symm hx]
  have hpd : ∀ d, isPred (planOf ops) d i = true → done.testBit d = true := fun d h => j.sub d (hp d h)
  have hnp : ∀ x, done.testBit x = true → isPred (planOf ops) i x = false := fun x hx => by
    cases hh : isPred (planOf ops) i x with
    | false => rfl
    | true => rw [j.closD x hx i hh] at hd; cases hd
  have un : ∀ x, (listed.setIfInBounds i true).getD x false = false → x ≠ i ∧ listed.getD x false = false := fun x hx => by
    rw [getD_set _ _ hlt] at hx
    split at hx
    · cases hx
    · rename_i hne; exact ⟨Ne.symm hne, hx⟩
  obtain ⟨t1, t2⟩ := tmp_step (vals' := vals.put i v) j.size hT ho j.tmp j.tsize hP.ext.le (fun d _ hne => by rw [valD_put, if_neg hne]) (v' := v') (by rw [valD_put, if_pos rfl]; exact hv)
  refine { inv := hP.inv, ext := j.ext.trans j.le hP.ext, le := Nat.le_trans j.le hP.le, size := by simp [j.size], sub := ?_, clos := j.clos_step hii hp, closD := ?_, wf := j.wf.step hpd, cover := ?_, rems := ?_, nodup := hnd, doneN := ?_, tsize := t1, tmp := t2, dfr := by rw [put_defers]; exact j.dfr.mono hP.ext.le, pend := ?_, blk := ?_ }
  · intro x hx
    rw [getD_set _ _ hlt] at hx
    split at hx
    · subst_vars; rw [setDone_bit]; simp
    · rw [setDone_bit, j.sub x hx]; rfl
  · intro x hxd d hdx
    by_cases e : x = i
    · subst e; rw [setDone_bit, hpd d hdx]; rfl
    · rw [hold x e] at hxd; rw [setDone_bit, j.closD x hxd d hdx]; rfl
  · intro x hx
    by_cases e : x = i
    · subst e; left; rw [setDone_bit]; simp
    · rcases j.cover x hx with g | g
      · left; rw [hold x e]; exact g
      · exact .inr ((hrem x).2 ⟨g, e⟩)
  · intro x hx
    obtain ⟨g1, g2⟩ := (hrem x).1 hx
    rw [hold x g2]; exact j.rems x g1
  · intro x hx
    by_cases e : x = i
    · subst e; exact hii
    · rw [hold x e] at hx; exact j.doneN x hx
  · intro x hxd hxl
    obtain ⟨hne, hxl⟩ := un x hxl
    rw [hold x hne] at hxd
    obtain ⟨o', g1, g2⟩ := j.pend x hxd hxl
    refine ⟨o', g1, ?_⟩
    unfold Pend at *
    rw [lookR_put (hnp x hxd), valD_put, if_neg hne]
    rcases g2 with g2 | ⟨q1, q2, q3⟩ | ⟨q1, k, ob, q2, q3, q4, q5, q6⟩
    · exact .inl g2
    · refine .inr (.inl ⟨q1, ?_, fun hrd => ?_⟩)
      · cases hrd : Ax.reads o' with
        | false => rw [evF_indep (h' := h) hrd]; exact q2
        | true =>
          have hmem : x ∈ early.filter fun j => Bool.not (isPred (planOf ops) j i) := by
            refine List.mem_filter.2 ⟨q3 hrd, ?_⟩
            cases hh : isPred (planOf ops) x i with
            | false => rfl
            | true => rw [hp x hh] at hxl; cases hxl
          have hst := still_spec _ hs x hmem
          unfold still1 at hst
          have hpo : (planOf ops).ops = ops := rfl
          rw [hpo, g1] at hst
          simp only at hst
          split at hst
          · rename_i u hu; rw [hu, same_eq hst]
          · cases hst
      · refine List.mem_filter.2 ⟨q3 hrd, ?_⟩
        cases hh : isPred (planOf ops) x i with
        | false => rfl
        | true => rw [hp x hh] at hxl; cases hxl
    · obtain ⟨r1, r2⟩ := hP.ext.kept k q6 q4
      exact .inr (.inr ⟨q1, k, ob, q2, q3, r1, by rw [r2]; exact q5, Nat.lt_of_lt_of_le q6 hP.le⟩)
  · intro x b hxd hxl hb
    obtain ⟨hne, hxl⟩ := un x hxl
    rw [hold x hne] at hxd
    obtain ⟨q1, q2, q3⟩ := j.blk x b hxd hxl hb
    refine ⟨q1, Nat.lt_of_lt_of_le q2 hP.le, fun y hy hyl hby => ?_⟩
    obtain ⟨hne', hyl⟩ := un y hyl
    rw [hold y hne'] at hy
    exact q3 y hy hyl hby
end
end Go.Ax
set_option linter.unusedVariables false
set_option linter.unusedSimpArgs false
namespace Go.Ax
open Go Go.RowKit

noncomputable def restRun (C : Cfg) (E : Eng) (p : Plan) (tmps : T AV) (f : Nat) (keep : List Nat) (s : RSt) : Option RSt := match keep with
  | [] => some s
  | _ :: _ => match keep.filter (ready p s.done) with
    | [i] => match stageW C E p tmps s i with
      | some s => stages C E p tmps f (keep.reverse.filter fun j => Bool.not (Nat.beq j i)) s
      | none => none
    | _ => none
theorem stages_succ (C : Cfg) (E : Eng) (p : Plan) (tmps : T AV) (f : Nat) (rem : List Nat) (s : RSt) :
    stages C E p tmps (f + 1) rem s = restRun C E p tmps f (absorb C p tmps rem s []).2 (absorb C p tmps rem s []).1 := rfl
theorem stages_zero (C : Cfg) (E : Eng) (p : Plan) (tmps : T AV) (rem : List Nat) (s : RSt) : stages C E p tmps 0 rem s = none := rfl

def unl (n : Nat) (listed : Array Bool) : List Nat := (List.range n).filter fun i => Bool.not (listed.getD i false)
theorem unl_set {n i : Nat} {listed : Array Bool} (hi : i < n) (hs : listed.size = n) (hl : listed.getD i false = false) : (unl n (listed.setIfInBounds i true)).length < (unl n listed).length := by
  have e : unl n (listed.setIfInBounds i true) = (unl n listed).filter fun x => decide (x ≠ i) := by
    unfold unl
    rw [List.filter_filter]
    congr 1
    funext x
    rw [getD_set _ _ (by rw [hs]; exact hi)]
    by_cases h : x = i
    · subst h; simp
    · simp [h, Ne.symm h]
  rw [e, List.length_filter_lt_length_iff_exists]
  exact ⟨i, List.mem_filter.2 ⟨List.mem_range.2 hi, by rw [hl]; rfl⟩, by simp⟩

section
variable {C : Cfg} {E : Eng} {B : Bd} {w0 w : World} {h0 h : H} {n0 next : Nat} {μ0 μ : Mu} {ops : Array Oper} {tmps : T AV} {nt : Nat} {dfs : List Nat}
  {vals : T AV} {done : Nat} {early rem : List Nat} {listed : Array Bool} {bl : Nat → Option Nat} {a : Act} {ro : Option Nat}

/-- nothing comes up: all that is done is listed -/
theorem J.none_ready (j : J C B w0 h0 n0 μ0 ops tmps nt dfs vals done early h next rem listed bl μ a w) (hr : Region.ready .any ops listed = []) : ∀ i, done.testBit i = true → listed.getD i false = true := by
  intro i hi
  apply Classical.byContradiction
  intro hn
  obtain ⟨x, h1, h2, h3⟩ := j.wf (fun i => listed.getD i false = true) ⟨i, hi, hn⟩
  have hx : x < ops.size := j.doneN x h1
  have : x ∈ Region.ready .any ops listed := by
    rw [mem_ready]
    obtain ⟨o, ho⟩ : ∃ o, ops[x]? = some o := ⟨ops[x], by simp [hx]⟩
    refine ⟨?_, o, ho, fun e he hb => h3 _ (pred_direct ho he hb)⟩
    rw [getD_tf (by rw [j.size]; exact hx) true false]
    simpa using h2
  rw [hr] at this; cases this

/-- a kept one that is ready in the abstract comes up when all that is done is listed -/
theorem J.comes (j : J C B w0 h0 n0 μ0 ops tmps nt dfs vals done early h next rem listed bl μ a w) (hall : ∀ i, done.testBit i = true → listed.getD i false = true) {i : Nat} (hi : i ∈ rem) (hr : ready (planOf ops) done i = true) : i ∈ Region.ready .any ops listed := by
  rw [mem_ready]
  have hlt := (j.rems i hi).2
  obtain ⟨o, ho⟩ : ∃ o, ops[i]? = some o := ⟨ops[i], by simp [hlt]⟩
  refine ⟨?_, o, ho, fun e he hb => hall _ (ready_bits hr _ (pred_direct ho he hb))⟩
  rw [getD_tf (by rw [j.size]; exact hlt) true false]
  exact j.unl (j.rems i hi).1

theorem restRun_cases {f : Nat} {keep : List Nat} {s sf : RSt} (hv : restRun C E (planOf ops) tmps f keep s = some sf) :
    (keep = [] ∧ sf = s) ∨ ∃ i o v h' next', keep.filter (ready (planOf ops) s.done) = [i] ∧ ops[i]? = some o ∧ wantedA ops (lookR (planOf ops) tmps s.vals i) o = true ∧ opW C E (env C (lookR (planOf ops) tmps s.vals i)) s.h s.next o = some (v, h', next') ∧
      still C (planOf ops) tmps s.vals h' (s.early.filter fun j => Bool.not (isPred (planOf ops) j i)) = true ∧
      stages C E (planOf ops) tmps f (keep.reverse.filter fun j => Bool.not (Nat.beq j i)) ⟨s.vals.put i v, setDone s.done i, s.early.filter fun j => Bool.not (isPred (planOf ops) j i), h', next'⟩ = some sf := by
  unfold restRun at hv
  split at hv
  · cases hv; exact .inl ⟨rfl, rfl⟩
  · right
    split at hv
    · rename_i i hf
      split at hv
      · rename_i s1 hs1
        unfold stageW at hs1
        have hpo : (planOf ops).ops = ops := rfl
        rw [hpo] at hs1
        split at hs1
        · rename_i o ho
          cases hwt : wantedA ops (lookR (planOf ops) tmps s.vals i) o with
          | false => rw [hwt] at hs1; cases hs1
          | true =>
          rw [hwt] at hs1
          simp only at hs1
          cases hw : opW C E (env C (lookR (planOf ops) tmps s.vals i)) s.h s.next o with
          | none => rw [hw] at hs1; cases hs1
          | some out =>
            obtain ⟨v, h', next'⟩ := out
            rw [hw] at hs1
            obtain ⟨vals, done, early, h, next⟩ := s
            simp only [afterW] at hs1
            split at hs1
            · rename_i hst
              cases hs1
              exact ⟨i, o, v, h', next', hf, ho, hwt, hw, hst, hv⟩
            · cases hs1
        · cases hs1
      · cases hv
    · cases hv

theorem drawn_main (hC : CallOk C E) (hY : YieldOk C E) (G : Good C) (hT : TOk ops nt) {Q : Exit → Act → World → Prop} {sf : RSt}
    (hQ : ∀ (listed : Array Bool) bl μ a w, J C B w0 h0 n0 μ0 ops tmps nt dfs sf.vals sf.done sf.early sf.h sf.next [] listed bl μ a w → (∀ i, i < ops.size → listed.getD i false = true) → Q .normal a w) :
    ∀ (fuel : Nat) (f : Nat) (keep : List Nat) (s : RSt) (listed : Array Bool) (bl : Nat → Option Nat) (μ : Mu) (a : Act) (w : World), restRun C E (planOf ops) tmps f keep s = some sf →
      J C B w0 h0 n0 μ0 ops tmps nt dfs s.vals s.done s.early s.h s.next keep listed bl μ a w → (unl ops.size listed).length ≤ fuel → wpAnyIn (wides ro) 0 C.P .any ops Q fuel listed a w := by
  have fin : ∀ (f : Nat) (keep : List Nat) (s : RSt) (listed : Array Bool) (bl : Nat → Option Nat) (μ : Mu) (a : Act) (w : World), restRun C E (planOf ops) tmps f keep s = some sf →
      J C B w0 h0 n0 μ0 ops tmps nt dfs s.vals s.done s.early s.h s.next keep listed bl μ a w → Region.ready .any ops listed = [] → Q .normal a w := by
    intro f keep s listed bl μ a w hv j hr
    have hall := j.none_ready hr
    rcases restRun_cases hv with ⟨rfl, rfl⟩ | ⟨i, o, v, h', next', hf, _⟩
    · refine hQ listed bl μ a w j fun i hi => ?_
      rcases j.cover i hi with g | g
      · exact hall i g
      · cases g
    · have hm : i ∈ keep.filter (ready (planOf ops) s.done) := by rw [hf]; simp
      obtain ⟨m1, m2⟩ := List.mem_filter.1 hm
      have := j.comes hall m1 m2
      rw [hr] at this; cases this
  intro fuel
  induction fuel with
  | zero =>
    intro f keep s listed bl μ a w hv j hu
    have hr : Region.ready .any ops listed = [] := by
      cases hr : Region.ready .any ops listed with
      | nil => rfl
      | cons x xs =>
        obtain ⟨q1, q2, _⟩ := j.readyL (i := x) (by rw [hr]; simp)
        have : x ∈ unl ops.size listed := List.mem_filter.2 ⟨List.mem_range.2 q2, by rw [q1]; rfl⟩
        have hnil : unl ops.size listed = [] := List.eq_nil_of_length_eq_zero (by omega)
        rw [hnil] at this; cases this
    exact ⟨hr, fin f keep s listed bl μ a w hv j hr⟩
  | succ fuel ih =>
    intro f keep s listed bl μ a w hv j hu
    refine ⟨fin f keep s listed bl μ a w hv j, fun i hi => ?_⟩
    obtain ⟨hnl, hii, ⟨o, ho⟩, hp⟩ := j.readyL hi
    have hu' : (unl ops.size (listed.setIfInBounds i true)).length ≤ fuel := by have := unl_set hii j.size hnl; omega
    cases hd : s.done.testBit i with
    | true => exact j.pend_step hT hi hd fun a' w' μ' j' => ih f keep s _ bl μ' a' w' hv j' hu'
    | false =>
      have hik : i ∈ keep := (j.cover i hii).resolve_left (by rw [hd]; simp)
      have hrd : ready (planOf ops) s.done i = true := bits_ready fun d h => j.sub d (hp d h)
      rcases restRun_cases hv with ⟨rfl, rfl⟩ | ⟨i', o', v, h', next', hf, ho', hwt, hw, hst, hrest⟩
      · cases hik
      · have hm : i ∈ keep.filter (ready (planOf ops) s.done) := List.mem_filter.2 ⟨hik, hrd⟩
        rw [hf] at hm
        have : i = i' := by simpa using hm
        subst this
        rw [ho] at ho'; cases ho'
        obtain ⟨hwant, er⟩ := j.reads hT ho hnl hp
        have hrem : ∀ x, x ∈ (keep.reverse.filter fun j => Bool.not (Nat.beq j i)) ↔ x ∈ keep ∧ x ≠ i := fun x => by
          rw [List.mem_filter, List.mem_reverse]
          refine and_congr_right fun _ => ?_
          cases hb : Nat.beq x i with
          | true => simp [Nat.eq_of_beq_eq_true hb]
          | false => simp [Nat.ne_of_beq_eq_false hb]
        have hnd : (keep.reverse.filter fun j => Bool.not (Nat.beq j i)).Nodup := ((List.reverse_perm keep).nodup_iff.2 j.nodup).filter _
        have next_ : ∀ (v' : Value) (w' : World) (μ' : Mu), VRel μ' v v' → Post C B w0 μ s.h s.next h' next' μ' w' → wpAnyIn (wides ro) 0 C.P .any ops Q fuel (listed.setIfInBounds i true) (a.put o.dst v') w' := by
          intro v' w' μ' hv' hP
          have j1 := j.write hT ho hd hp hst hv' hP hrem hnd
          cases f with
          | zero => rw [stages_zero] at hrest; cases hrest
          | succ f =>
            rw [stages_succ] at hrest
            obtain ⟨bl', j2⟩ := absorb_J (keep := []) (s1 := (absorb C (planOf ops) tmps (keep.reverse.filter fun j => Bool.not (Nat.beq j i)) ⟨s.vals.put i v, setDone s.done i, s.early.filter fun j => Bool.not (isPred (planOf ops) j i), h', next'⟩ []).1) _ _ _ bl rfl (by rw [List.append_nil]; exact j1)
            exact ih f _ _ _ bl' μ' _ w' hrest j2 hu'
        unfold wpOpIn
        rw [ho]
        simp only [← hwant, hwt, if_true]
        exact opW_ok hC hY G hw er j.inv next_
end
end Go.Ax
set_option linter.unusedVariables false
set_option linter.unusedSimpArgs false
namespace Go.Ax
open Go Go.RowKit

section
variable {C : Cfg} {E : Eng} {B : Bd} {w0 w : World} {h : H} {next : Nat} {μ : Mu} {a : Act} {ro : Option Nat}

theorem lookT_putDst (t : T AV) (d : Option Tmp) (v : AV) (x : Nat) : lookT (putDst t d v) x = if d = some x then v else lookT t x := by
  cases d with
  | none => simp [putDst]
  | some d =>
    unfold putDst
    simp only
    rw [lookT_put]
    by_cases e : x = d
    · simp [e]
    · simp [e, Ne.symm e]

theorem putAll_look (vals : T AV) (x : Nat) : ∀ (l : List Oper) (i : Nat) (t : T AV),
    (lookT (putAll vals l i t) x = lookT t x ∧ ∀ (k : Nat) o, l[k]? = some o → o.dst ≠ some x) ∨ ∃ (k : Nat) (o : Oper), l[k]? = some o ∧ o.dst = some x ∧ lookT (putAll vals l i t) x = valD vals (i + k) := by
  intro l
  induction l with
  | nil => intro i t; exact .inl ⟨rfl, fun k o h => by simp at h⟩
  | cons o l ih =>
    intro i t
    unfold putAll
    rcases ih (Nat.succ i) (putDst t o.dst (valD vals i)) with ⟨h1, h2⟩ | ⟨k, o', h1, h2, h3⟩
    · rw [lookT_putDst] at h1
      by_cases hd : o.dst = some x
      · rw [if_pos hd] at h1; exact .inr ⟨0, o, rfl, hd, h1⟩
      · rw [if_neg hd] at h1
        refine .inl ⟨h1, fun k o' hk => ?_⟩
        cases k with
        | zero => simp at hk; subst hk; exact hd
        | succ k => exact h2 k o' (by simpa using hk)
    · exact .inr ⟨k + 1, o', by simpa using h1, h2, by rw [h3]; congr 1; omega⟩

theorem cur_all {ops : Array Oper} {nt : Nat} {tmps vals : T AV} {listed : Array Bool} (hT : TOk ops nt) (hall : ∀ i, i < ops.size → listed.getD i false = true) (t : Nat) :
    cur (planOf ops) tmps vals listed t = lookT (putAll vals ops.toList 0 tmps) t := by
  rcases putAll_look vals t ops.toList 0 tmps with ⟨h1, h2⟩ | ⟨k, o, h1, h2, h3⟩
  · rw [h1]
    unfold cur
    cases hd : (planOf ops).dst.get t with
    | none => rfl
    | some d =>
      obtain ⟨o, g1, g2⟩ := dst_spec hd
      exact absurd g2 (h2 d o (by simpa using g1))
  · rw [h3]
    have ho : ops[k]? = some o := by simpa using h1
    have hk : k < ops.size := (Array.getElem?_eq_some_iff.1 ho).1
    have hds := (hT k o ho).2.1
    unfold dstIs at hds
    rw [h2] at hds
    simp only at hds
    split at hds
    · rename_i j hj
      have := Nat.eq_of_beq_eq_true hds
      subst this
      unfold cur
      rw [hj]
      simp only [hall j hk, if_true]
      congr 1; omega
    · cases hds

theorem wf_zero (p : Plan) : WF p 0 := by
  intro L ⟨i, hi, _⟩
  simp at hi

theorem drawn_region_ok (hC : CallOk C E) (hY : YieldOk C E) (G : Good C) {id : Nat} {ops : Array Oper} {st st' : St} (hs : drawn C E ops st = some st')
    (I : Inv C B w0 μ st.h st.next w) (r : TRel μ st.tmps st.nt a.tmps) (d : DRel μ st.dfs a.defers) : (Code.region id ops true).wpIn (wides ro) 0 C.P (COut C B w0 μ st .normal st') a w := by
  obtain ⟨tmps, nt, dfs, h, next⟩ := st
  unfold drawn at hs
  simp only at hs I r d
  cases hok : tmpsOk (planOf ops) nt ops.toList 0 with
  | false => rw [hok] at hs; cases hs
  | true =>
    rw [hok] at hs
    simp only at hs
    have hT := tok_of hok
    cases hst : stages C E (planOf ops) tmps (ops.size + 1) (List.range ops.size) ⟨.e, 0, [], h, next⟩ with
    | none => rw [hst] at hs; cases hs
    | some sf =>
      rw [hst] at hs
      obtain ⟨vals, done, early, h', next'⟩ := sf
      simp only [drawnEnd] at hs
      cases hs
      refine wpIn_region_any G.mixed ?_
      rw [stages_succ] at hst
      have hz : ∀ i, (Array.replicate ops.size false).getD i false = false := fun i => by
        simp only [Array.getD_eq_getD_getElem?, Array.getElem?_replicate]; split <;> rfl
      have j0 : J C B w0 h next μ ops tmps nt dfs .e 0 [] h next (List.range ops.size) (Array.replicate ops.size false) (fun _ => none) μ a { w with drawn := w.drawn + 1 } := {
        inv := I.drew
        ext := Ext.refl _ _ _
        le := Nat.le_refl _
        size := by simp
        sub := fun i hi => by rw [hz] at hi; cases hi
        clos := fun i hi => by rw [hz] at hi; cases hi
        closD := fun i hi => by simp at hi
        wf := wf_zero _
        cover := fun i hi => .inr (List.mem_range.2 hi)
        rems := fun i hi => ⟨by simp, List.mem_range.1 hi⟩
        nodup := List.nodup_range
        doneN := fun i hi => by simp at hi
        tsize := r.1
        tmp := fun t => by
          have : cur (planOf ops) tmps .e (Array.replicate ops.size false) t = lookT tmps t := by
            unfold cur
            cases (planOf ops).dst.get t with
            | none => rfl
            | some d => simp only [hz]; rfl
          rw [this]; exact r.2 t
        dfr := d
        pend := fun i hi => by simp at hi
        blk := fun i b hi => by simp at hi }
      obtain ⟨bl', j1⟩ := absorb_J (keep := []) (s := ⟨.e, 0, [], h, next⟩) (s1 := (absorb C (planOf ops) tmps (List.range ops.size) ⟨.e, 0, [], h, next⟩ []).1) _ _ _ rfl (by rw [List.append_nil]; exact j0)
      refine drawn_main hC hY G hT ?_ ops.size ops.size _ _ _ _ _ _ _ hst j1 ?_
      · intro listed bl μ' a' w' j hall
        exact ⟨rfl, μ', ⟨j.ext, j.le, j.inv⟩, ⟨j.tsize, fun t => by rw [← cur_all hT hall]; exact j.tmp t⟩, j.dfr⟩
      · have := List.length_filter_le (fun i => Bool.not ((Array.replicate ops.size false).getD i false)) (List.range ops.size)
        rw [List.length_range] at this
        exact this
end
end Go.Ax
set_option linter.unusedVariables false
set_option linter.unusedSimpArgs false
namespace Go.Ax
open Go Go.RowKit

def exitOf : AX → Exit
  | .normal => .normal
  | .exit i => .exit i
  | .goto l => .goto l
  | .ret => .ret

/-- at the head of a loop's round -/
def LoopIn (F : Fence) (n : Nat) (P : Program) (c : Code) (Q : Exit → Act → World → Prop) (a : Act) (w : World) : Prop :=
  ∀ (b : Frame) (k : List Item) (cs : List Frame), b.roundOf = F.round → F.fn b.fn → F.room (cs.length + 1 + n) →
    ∃ e a' w', Q e a' w' ∧ ArrivesIn (Machine.fenced P F) P (lone (b.atR a (.code c :: .inLoop c :: k)) cs w) b k cs e a' w'

section
variable {F : Fence} {n : Nat} {P : Program} {Q : Exit → Act → World → Prop} {a : Act} {w : World}
theorem wpIn_of_loopIn {c : Code} (h : LoopIn F n P c Q a w) : (Code.loop c).wpIn F n P Q a w := by
  intro b k cs hro hb hr
  obtain ⟨e, a', w', hq, harr⟩ := h b k cs hro hb hr
  exact ⟨e, a', w', hq, .of_steps (.one (fenced_calm hb hr rfl) stepR_loop) harr⟩
theorem loopIn_step {c : Code} (h : c.wpIn F n P (Exit.then (LoopIn F n P c Q) Q) a w) : LoopIn F n P c Q a w := by
  intro b k cs hro hb hr
  obtain ⟨e, a₁, w₁, hq, harr⟩ := h b (.inLoop c :: k) cs hro hb hr
  cases e with
  | normal =>
    obtain ⟨e₂, a₂, w₂, hq₂, harr₂⟩ := hq b k cs hro hb hr
    exact ⟨e₂, a₂, w₂, hq₂, .of_steps (StepsIn.trans harr (.one (fenced_calm hb hr rfl) stepR_inLoop)) harr₂⟩
  | exit id => exact ⟨_, a₁, w₁, hq, .pass (x := .inLoop c) rfl (fun _ _ => .inl (by simp)) harr⟩
  | goto l => exact ⟨_, a₁, w₁, hq, .pass (x := .inLoop c) rfl (fun _ _ => .inl (by simp)) harr⟩
  | ret => exact ⟨_, a₁, w₁, hq, .pass (x := .inLoop c) rfl (fun _ _ => .inl (by simp)) harr⟩
  | panic ch => exact ⟨_, a₁, w₁, hq, .pass (x := .inLoop c) rfl (fun _ _ => .inl (by simp)) harr⟩
  | outgrown => exact ⟨_, a₁, w₁, hq, .pass (x := .inLoop c) rfl (fun _ _ => .inl (by simp)) harr⟩

theorem stepR_scope {c : Code} {b : Frame} {k : List Item} {cs : List Frame} : step P (lone (b.atR a (.code (.scope c) :: k)) cs w) = .next (lone (b.atR a (.code c :: .inScope c :: k)) cs w) :=
  step_lone_go (by simp [stepG, stepG.exec, Frame.atR])
theorem stepR_inScope {c : Code} {b : Frame} {k : List Item} {cs : List Frame} : step P (lone (b.atR a (.inScope c :: k)) cs w) = .next (lone (b.atR a k) cs w) :=
  step_lone_go (by simp [stepG, stepG.exec, Frame.atR])
theorem wpIn_scope {c : Code} (h : c.wpIn F n P Q a w) (hg : ∀ l a w, ¬ Q (.goto l) a w) : (Code.scope c).wpIn F n P Q a w := by
  intro b k cs hro hb hr
  have h0 : (lone (b.atR a (.code (.scope c) :: k)) cs w).fenced P F := fenced_calm hb hr rfl
  obtain ⟨e, a₁, w₁, hq, harr⟩ := h b (.inScope c :: k) cs hro hb hr
  have hx : ∀ id, exitTo id (.inScope c :: k) = exitTo id k := fun id => by simp [exitTo]
  cases e with
  | normal => exact ⟨.normal, a₁, w₁, hq, .head h0 stepR_scope (StepsIn.trans harr (.one (fenced_calm hb hr rfl) stepR_inScope))⟩
  | exit id => exact ⟨.exit id, a₁, w₁, hq, fun k' hk => .head h0 stepR_scope (harr.1 k' (by rw [hx]; exact hk)), fun hr' hk => let ⟨k₁, h1, h2⟩ := harr.2 hr' (by rw [hx]; exact hk); ⟨k₁, h1, .head h0 stepR_scope h2⟩⟩
  | goto l => exact absurd hq (hg _ _ _)
  | ret => exact ⟨_, a₁, w₁, hq, .of_steps (.one h0 stepR_scope) harr⟩
  | panic ch => exact ⟨_, a₁, w₁, hq, .of_steps (.one h0 stepR_scope) harr⟩
  | outgrown => exact ⟨_, a₁, w₁, hq, .of_steps (.one h0 stepR_scope) harr⟩
end

def CodeOk (C : Cfg) (E : Eng) : Prop := ∀ B w0 round c st x st', E.code round c st = some (x, st') →
  ∀ μ w a ro, Inv C B w0 μ st.h st.next w → TRel μ st.tmps st.nt a.tmps → DRel μ st.dfs a.defers → RRel μ round ro →
    c.wpIn (wides ro) 0 C.P (COut C B w0 μ st (exitOf x) st') a w ∧ ∀ b, c = .loop b → LoopIn (wides ro) 0 C.P b (COut C B w0 μ st (exitOf x) st') a w

section
variable {C : Cfg} {E : Eng} {B : Bd} {w0 w : World} {h : H} {next : Nat} {μ : Mu} {a : Act} {ro round : Option Nat}

theorem COut.trans {st st1 st2 : St} {x : Exit} {μ1 : Mu} {w1 : World} (hp : Post C B w0 μ st.h st.next st1.h st1.next μ1 w1) {e : Exit} {a' : Act} {w' : World} (hc : COut C B w0 μ1 st1 x st2 e a' w') : COut C B w0 μ st x st2 e a' w' := by
  obtain ⟨he, μ2, p, r, d⟩ := hc
  exact ⟨he, μ2, hp.trans p, r, d⟩

/-! ### the record of a loop -/
theorem ObRel.loop_inv {L : Loc} {s : LoopState} {pend : Option Code} {tmps : T AV} {nt : Nat} {ps : Array Tmp} {as bd : Code} {d : Nat} (ho : ObRel μ L w (.loop s pend tmps nt ps as bd d)) :
    ∃ r : Loop, w.heap[L.c]? = some (.loop r) ∧ r.state = s ∧ r.pending = pend ∧ r.params = ps ∧ r.assign = as ∧ r.body = bd ∧ (∃ Ld, μ d = some Ld ∧ r.defers = Ld.c) ∧ TRel μ tmps nt r.tmps := ho

theorem loop_turn (I : Inv C B w0 μ h next w) {b : Nat} {L : Loc} {s s' : LoopState} {pend pend' : Option Code} {tmps : T AV} {nt : Nat} {ps : Array Tmp} {as bd : Code} {d : Nat} (hL : μ b = some L)
    (hg : h.get b = some (.loop s pend tmps nt ps as bd d)) {r : Loop} (hr : w.heap[L.c]? = some (.loop r)) :
    Inv C B w0 μ (h.put b (.loop s' pend' tmps nt ps as bd d)) next (w.putObj L.c (.loop { r with state := s', pending := pend' })) := by
  obtain ⟨r', q0, q1, q2, q3, q4, q5, q6, q7⟩ := (I.obj b L _ hL hg).loop_inv
  rw [hr] at q0; cases q0
  have hlt : L.c < w.heap.size := (Array.getElem?_eq_some_iff.1 hr).1
  refine I.putO (ob := .loop s pend tmps nt ps as bd d) hL hg rfl ?_
  exact ⟨_, putO_same hlt, rfl, rfl, q3, q4, q5, q6, q7⟩

theorem putArgs_rel : ∀ (ps : List Nat) (l : List AV) (t t' : T AV) (nt : Nat), allLt nt ps = true → putArgs ps l t = some t' → ∀ (arr : Array Value) (vs : List Value), TRel μ t nt arr → VRels μ l vs →
    ps.length = vs.length ∧ TRel μ t' nt ((List.zip ps vs).foldl (fun (tmps : Array Value) (x : Nat × Value) => tmps.setIfInBounds x.1 x.2) arr) := by
  intro ps
  induction ps with
  | nil =>
    intro l t t' nt _ hp arr vs r rv
    cases l with
    | cons _ _ => simp [putArgs] at hp
    | nil => cases rv; simp [putArgs] at hp; subst hp; exact ⟨rfl, r⟩
  | cons p ps ih =>
    intro l t t' nt hlt hp arr vs r rv
    cases l with
    | nil => simp [putArgs] at hp
    | cons x l =>
      cases rv with
      | cons h1 h2 =>
        unfold allLt at hlt
        split at hlt
        · rename_i hb
          have hb : p < nt := Nat.blt_eq ▸ hb
          obtain ⟨g1, g2⟩ := ih l _ _ nt hlt hp _ _ (r.put hb h1) h2
          exact ⟨by simp [g1], g2⟩
        · cases hlt

theorem yield_ok (hE : CodeOk C E) : YieldOk C E := by
  intro B w0 b args h next v h' next' hv μ w vs L hL I rv
  unfold callYield at hv
  split at hv
  · rename_i tmps nt ps as bd d hg
    split at hv
    · rename_i hlt
      cases hpa : putArgs ps.toList args tmps with
      | none => rw [hpa] at hv; cases hv
      | some tm =>
        rw [hpa] at hv
        obtain ⟨r, q0, q1, q2, q3, q4, q5, q6, q7⟩ := (I.obj b L _ hL hg).loop_inv
        obtain ⟨g1, g2⟩ := putArgs_rel _ _ _ _ _ hlt hpa _ _ q7 rv
        have hsz : vs.toArray.size = r.params.size := by rw [q3]; simpa using g1.symm
        refine ⟨r.fn, _, r.assign, r.body, run_yield q0 hsz, ?_⟩
        rw [q4, q5, q3]
        unfold runRound at hv
        simp only at hv
        split at hv
        · rename_i st1 hc1
          refine roundIn_of_wpIn trivial ?_
          have hfold : (ps.zip vs.toArray).foldl (fun (tmps : Array Value) (x : Nat × Value) => match x with | (t, a) => tmps.setIfInBounds t a) r.tmps = (List.zip ps.toList vs).foldl (fun (tmps : Array Value) (x : Nat × Value) => tmps.setIfInBounds x.1 x.2) r.tmps := by
            rw [← Array.foldl_toList]; simp
          have hw1 := (hE B w0 (some b) as _ _ _ hc1 μ w { tmps := _, defers := [] } (some L.c) I g2 trivial ⟨L, hL, rfl⟩).1
          rw [wides_in, hfold]
          refine wpIn_mono hw1 fun e a1 w1 hq => ?_
          obtain ⟨rfl, μ1, p1, r1, d1⟩ := hq
          show ∃ w₂, _
          obtain ⟨tm1, nt1, dfs1, h1, next1⟩ := st1
          unfold bodyRound at hv
          simp only at hv p1 r1 d1
          split at hv
          · rename_i tmps1 nt1' ps1 as1 bd1 d1' hg1
            have hL1 := p1.ext.le _ _ hL
            obtain ⟨r', u0, u1, u2, _⟩ := (p1.inv.obj b L _ hL1 hg1).loop_inv
            refine ⟨_, run_beginRound u0 u1, ?_⟩
            have I2 := loop_turn (s' := .busy) (pend' := none) p1.inv hL1 hg1 u0
            have u2' : ({ r' with state := .busy } : Loop) = { r' with state := .busy, pending := none } := by rw [← u2]
            rw [u2']
            split at hv
            · rename_i x st2 hc2
              have hw2 := (hE B w0 (some b) bd _ _ _ hc2 μ1 _ a1 (some L.c) I2 r1 d1 ⟨L, hL1, rfl⟩).1
              refine wpIn_mono hw2 fun e a2 w2 hq => ?_
              obtain ⟨rfl, μ2, p2, r2, d2⟩ := hq
              obtain ⟨tm2, nt2, dfs2, h2, next2⟩ := st2
              unfold endRound at hv
              simp only at hv p2 r2 d2
              split at hv
              · rename_i tmps2 nt2' ps2 as2 bd2 d2' hg2
                have hL2 := p2.ext.le _ _ hL1
                obtain ⟨r'', z0, z1, z2, _⟩ := (p2.inv.obj b L _ hL2 hg2).loop_inv
                have hend := run_endRound (P := C.P) (jumpOf x) z0
                have I3 := loop_turn (s' := if (jumpOf x).isNone then .ready else .done) (pend' := jumpOf x) p2.inv hL2 hg2 z0
                cases hv
                have hR : ROut C B w0 μ h next (.lit (.bool (jumpOf x).isNone)) (h2.put b (.loop (if (jumpOf x).isNone then .ready else .done) (jumpOf x) tmps2 nt2' ps2 as2 bd2 d2')) next'
                    (.returned (.bool (jumpOf x).isNone)) (w2.putObj L.c (.loop { r'' with state := if (jumpOf x).isNone then .ready else .done, pending := jumpOf x })) := by
                  refine ⟨_, μ2, rfl, .lit _, ?_⟩
                  have e1 : Ext next1 μ1 h1 μ1 (h1.put b (.loop .busy none tmps1 nt1' ps1 as1 bd1 d1')) := Ext.put hL1
                  have e2 : Ext next' μ2 h2 μ2 (h2.put b (.loop (if (jumpOf x).isNone then .ready else .done) (jumpOf x) tmps2 nt2' ps2 as2 bd2 d2')) := Ext.put hL2
                  exact ⟨((p1.ext.trans p1.le e1).trans p1.le p2.ext).trans (Nat.le_trans p1.le p2.le) e2, Nat.le_trans p1.le p2.le, I3⟩
                cases x with
                | normal => exact ⟨_, _, hend, hR⟩
                | ret => exact ⟨_, _, hend, hR⟩
                | exit i => exact ⟨_, _, hend, hR⟩
                | goto l => exact ⟨_, _, hend, hR⟩
              · cases hv
            · cases hv
          · cases hv
        · cases hv
    · cases hv
  · cases hv
end
end Go.Ax
