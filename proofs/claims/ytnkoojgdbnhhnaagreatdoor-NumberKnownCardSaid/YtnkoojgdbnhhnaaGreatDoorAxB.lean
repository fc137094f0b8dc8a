import Derived.Test.YtnkoojgdbnhhnaaGreatDoorAxA
import Derived.Laws.MakeOwn
import Derived.Laws.Append
import Derived.Deep.Draws
set_option linter.unusedVariables false
set_option linter.unusedSimpArgs false
namespace Go.Ax
open Go Go.RowKit
section
variable {C : Cfg} {B : Bd} {w0 w : World} {μ : Mu} {h : H} {next : Nat} {ρ : Env} {e : Operand → Value}

theorem fSlice_ok {t : TypeId} {x : Operand} {lo hi mx : Option Operand} {ty : TypeId} {d : Option Tmp} {pos : String} {af : Array Edge} {g} {v : AV}
    (hv : fSlice C ρ h ⟨d, .slice t x lo hi mx, ty, pos, af, g⟩ t (ρ x) lo hi mx = some v) (r : ER μ ρ e (Op.slice t x lo hi mx).operands.toList) (I : Inv C B w0 μ h next w) :
    FOk C μ w e ⟨d, .slice t x lo hi mx, ty, pos, af, g⟩ v := by
  unfold fSlice at hv
  split at hv
  · exact pureLit_ok hv r w
  · rename_i u _ hx
    split at hv
    · rename_i lo2 hi2 mx2 h1 h2 h3
      have r1 := optEv_rel (e := e) (μ := μ) h1 (fun y hy => r y (by simp [Op.operands] at hy ⊢; simp [hy]))
      have r2 := optEv_rel (e := e) (μ := μ) h2 (fun y hy => r y (by simp [Op.operands] at hy ⊢; simp [hy]))
      have r3 := optEv_rel (e := e) (μ := μ) h3 (fun y hy => r y (by simp [Op.operands] at hy ⊢; simp [hy]))
      obtain ⟨v', q1, q2⟩ := aslice_ok hv (r x (by simp [Op.operands]) _ hx) r1 r2 r3 I
      exact ⟨v', q1, by simp [execOp, q2]⟩
    · cases hv
  · cases hv

theorem EsRel.keys {es : List (Value × AV × Nat)} {es' : List MapEntry} (hr : EsRel μ es es') : (es.map fun e => ({ key := e.1, val := .tuple #[], born := 0 } : MapEntry)).map (·.key) = es'.map (·.key) := by
  apply List.ext_getElem?
  intro i
  simp only [List.getElem?_map]
  cases h1 : es[i]? with
  | none =>
    have : es'[i]? = none := by
      rw [List.getElem?_eq_none_iff] at h1 ⊢; rw [← hr.1]; exact h1
    simp [this]
  | some x =>
    have hi : i < es'.length := by rw [← hr.1]; exact (List.getElem?_eq_some_iff.1 h1).1
    have := hr.2 i x es'[i] h1 (List.getElem?_eq_getElem hi)
    simp [hi, this.1]

theorem findNow_keys (kind : TypeDesc) (k : Value) : ∀ (a b : List MapEntry) (i : Nat) (r : Option (Nat × Value)), a.map (·.key) = b.map (·.key) → Instr.findNow kind k a i = some r →
    Instr.findNow kind k b i = some (r.bind fun p => (b[p.1 - i]?).map fun e => (p.1, e.val)) ∧ ∀ p, r = some p → i ≤ p.1 ∧ p.1 - i < b.length
  | [], b, i, r, hk, h => by
    have : b = [] := by simpa using hk.symm
    subst this
    simp [Instr.findNow] at h; subst h; simp [Instr.findNow]
  | x :: a, b, i, r, hk, h => by
    cases b with
    | nil => simp at hk
    | cons y b =>
      simp at hk
      simp only [Instr.findNow, hk.1] at h ⊢
      cases hs : Instr.sameNow kind k y.key with
      | none => simp [hs] at h
      | some t =>
        cases t with
        | true => simp [hs] at h ⊢; subst h; simp
        | false =>
          simp only [hs] at h ⊢
          obtain ⟨q1, q2⟩ := findNow_keys kind k a b (i + 1) r hk.2 h
          refine ⟨?_, fun p hp => ?_⟩
          · rw [q1]
            cases r with
            | none => rfl
            | some p =>
              obtain ⟨z1, z2⟩ := q2 p rfl
              have : p.1 - i = p.1 - (i + 1) + 1 := by omega
              simp [this]
          · obtain ⟨z1, z2⟩ := q2 p hp
            simp; omega
theorem findNow_none (kind : TypeDesc) (k : Value) : ∀ (a b : List MapEntry) (i : Nat), a.map (·.key) = b.map (·.key) → Instr.findNow kind k a i = none → Instr.findNow kind k b i = none
  | [], b, i, hk, h => by simp [Instr.findNow] at h
  | x :: a, b, i, hk, h => by
    cases b with
    | nil => simp at hk
    | cons y b =>
      simp at hk
      simp only [Instr.findNow, hk.1] at h ⊢
      cases hs : Instr.sameNow kind k y.key with
      | none => rfl
      | some t =>
        cases t with
        | true => simp [hs] at h
        | false => simp only [hs] at h ⊢; exact findNow_none kind k a b (i + 1) hk.2 h
theorem sev_bind {P : Program} {α β : Type} : ∀ (s : Sem α) (f : α → Sem β) (b : β), sev P (s >>= f) = some b → ∃ a, sev P s = some a ∧ sev P (f a) = some b := by
  intro s
  induction s with
  | pure x => intro f b h; exact ⟨x, rfl, h⟩
  | program k ih => intro f b h; exact ih P f b h
  | mark m k ih => intro f b h; exact ih f b h
  | _ => intro f b h; simp [Bind.bind, Sem.bind, sev] at h
theorem findAsking_keys {P : Program} (kt : TypeId) (k : Value) (w : World) : ∀ (a b : List MapEntry) (i : Nat) (r : Option (Nat × Value)), a.map (·.key) = b.map (·.key) → sev P (Instr.findAsking kt k a i) = some r →
    (Instr.findAsking kt k b i).run P w = .ok (r.bind fun p => (b[p.1 - i]?).map fun e => (p.1, e.val)) w ∧ ∀ p, r = some p → i ≤ p.1 ∧ p.1 - i < b.length
  | [], b, i, r, hk, h => by
    have : b = [] := by simpa using hk.symm
    subst this
    have h : sev P (Pure.pure none : Sem (Option (Nat × Value))) = some r := h
    have : r = none := by simpa [sev, Pure.pure] using h.symm
    subst this; simp [Instr.findAsking]
  | x :: a, b, i, r, hk, h => by
    cases b with
    | nil => simp at hk
    | cons y b =>
      simp at hk
      simp only [Instr.findAsking, hk.1] at h ⊢
      obtain ⟨t, h1, h2⟩ := sev_bind _ _ _ h
      have e1 := sev_run P _ _ h1 w
      cases t with
      | true =>
        have : r = some (i, x.val) := by simpa [sev, Pure.pure] using h2.symm
        subst this
        simp [e1]
      | false =>
        simp at h2
        obtain ⟨q1, q2⟩ := findAsking_keys kt k w a b (i + 1) r hk.2 h2
        refine ⟨?_, fun p hp => ?_⟩
        · simp [e1, q1]
          cases r with
          | none => rfl
          | some p =>
            obtain ⟨z1, z2⟩ := q2 p rfl
            have : p.1 - i = p.1 - (i + 1) + 1 := by omega
            simp [this]
        · obtain ⟨z1, z2⟩ := q2 p hp
          simp; omega
theorem sev_und {P : Program} {t : TypeId} {d : TypeDesc} (h : sev P (underlying t) = some d) : P.underlying t = some d := by
  obtain ⟨p, h1, h2⟩ := sev_bind _ _ _ h
  have : p = P := by simpa [program, sev] using h1.symm
  subst this
  cases e : p.underlying t with
  | none => simp [e, stuck, sev] at h2
  | some d' => simp [e, sev, Pure.pure] at h2; rw [h2]
theorem findKey_keys {P : Program} {kt : TypeId} {k : Value} (w : World) {a b : List MapEntry} {r : Option (Nat × Value)} (hk : a.map (·.key) = b.map (·.key)) (h : sev P (Instr.findKey kt k a) = some r) :
    (Instr.findKey kt k b).run P w = .ok (r.bind fun p => (b[p.1]?).map fun e => (p.1, e.val)) w ∧ ∀ p, r = some p → p.1 < b.length := by
  obtain ⟨d, h1, h2⟩ := sev_bind _ _ _ h
  have hd := run_und (sev_und h1) w
  unfold Instr.findKey
  cases h3 : Instr.findNow d k a 0 with
  | some q =>
    simp only [h3] at h2
    have : q = r := by simpa [sev, Pure.pure] using h2
    subst this
    obtain ⟨q1, q2⟩ := findNow_keys d k a b 0 q hk h3
    refine ⟨by simp [hd, q1], fun p hp => by have := q2 p hp; omega⟩
  | none =>
    simp only [h3] at h2
    obtain ⟨q1, q2⟩ := findAsking_keys kt k w a b 0 r hk h2
    refine ⟨by simp [hd, findNow_none d k a b 0 hk h3, q1], fun p hp => by have := q2 p hp; omega⟩
theorem findK_ok {kt : TypeId} {k : Value} {es : List (Value × AV × Nat)} {es' : List MapEntry} (hr : EsRel μ es es') {r : Option Nat} (h : findK C kt k es = some r) (w : World) :
    (r = none ∧ (Instr.findKey kt k es').run C.P w = .ok none w) ∨ ∃ i e', r = some i ∧ es'[i]? = some e' ∧ (Instr.findKey kt k es').run C.P w = .ok (some (i, e'.val)) w := by
  unfold findK at h
  have hk : (es.map fun e => ({ key := e.1, val := .tuple #[], born := 0 } : MapEntry)).map (·.key) = es'.map (·.key) := hr.keys
  split at h
  · rename_i i v hf
    cases h
    obtain ⟨q1, q2⟩ := findKey_keys w hk hf
    have hi := q2 _ rfl
    refine .inr ⟨i, es'[i], rfl, List.getElem?_eq_getElem hi, ?_⟩
    rw [q1]; simp [List.getElem?_eq_getElem hi]
  · rename_i hf
    cases h
    obtain ⟨q1, q2⟩ := findKey_keys w hk hf
    exact .inl ⟨rfl, by rw [q1]; rfl⟩
  · cases h

theorem fLookup_ok {t : TypeId} {x i : Operand} {ok : Bool} {ty : TypeId} {d : Option Tmp} {pos : String} {af : Array Edge} {g} {v : AV}
    (hv : fLookup C h t (ρ x) (ρ i) ok = some v) (r : ER μ ρ e [x, i]) (I : Inv C B w0 μ h next w) : FOk C μ w e ⟨d, .lookup t x i ok, ty, pos, af, g⟩ v := by
  unfold fLookup at hv
  split at hv
  · rename_i b ka kt et hx hi hu
    obtain ⟨L, hL, ex⟩ := (r x (by simp) _ hx).map_inv
    split at hv
    · rename_i es clock k hg hl
      have ei := litOf_rel hl (r i (by simp) _ hi)
      obtain ⟨es', ho, hes⟩ := I.obj b L _ hL hg
      unfold mapLook at hv
      have hemp : es.isEmpty = es'.isEmpty := by
        have h1 := hes.1
        rw [Bool.eq_iff_iff, List.isEmpty_iff_length_eq_zero, Array.isEmpty_iff_size_eq_zero, h1]; simp
      split at hv
      · rename_i u hck
        have hck := sev_run C.P _ _ hck w
        split at hv
        · rename_i i' hf
          rcases findK_ok hes hf w with ⟨h1, _⟩ | ⟨i2, e', h1, h2, h3⟩
          · cases h1
          · cases h1
            split at hv
            · rename_i en hen
              cases hv
              obtain ⟨k1, k2, k3⟩ := hes.2 _ _ _ hen h2
              cases ok with
              | true =>
                refine ⟨.tuple #[e'.val, .bool true], .tup (.cons k2 (.cons (.lit _) .nil)), ?_⟩
                simp [execOp, ex, ei, Instr.lookup, run_und hu, getObj, Sem.run, ho, ← hemp, hck, h3]
              | false =>
                refine ⟨e'.val, k2, ?_⟩
                simp [execOp, ex, ei, Instr.lookup, run_und hu, getObj, Sem.run, ho, ← hemp, hck, h3]
            · cases hv
        · rename_i hf
          rcases findK_ok hes hf w with ⟨_, h3⟩ | ⟨_, _, h1, _⟩
          · split at hv
            · rename_i z hz
              cases hv
              obtain ⟨zv, hzr, rfl⟩ := run_zeroT hz w
              cases ok with
              | true =>
                refine ⟨.tuple #[zv, .bool false], .tup (.cons (VRel.ofV _) (.cons (.lit _) .nil)), ?_⟩
                simp [execOp, ex, ei, Instr.lookup, run_und hu, getObj, Sem.run, ho, ← hemp, hck, h3, hzr]
              | false =>
                refine ⟨zv, VRel.ofV _, ?_⟩
                simp [execOp, ex, ei, Instr.lookup, run_und hu, getObj, Sem.run, ho, ← hemp, hck, h3, hzr]
            · cases hv
          · cases h1
        · cases hv
      · cases hv
    · cases hv
  · cases hv
end
end Go.Ax
set_option linter.unusedVariables false
set_option linter.unusedSimpArgs false
namespace Go.Ax
open Go Go.RowKit
section
variable {C : Cfg} {B : Bd} {w0 w : World} {μ : Mu} {h : H} {next : Nat} {ρ : Env} {e : Operand → Value}

theorem rowAt_mono {p : Program} {fits : TypeId → Bool} {d : Nat} {el : TypeId} {c c' off n : Nat} (hc : c ≤ c') (hh : rowAt p fits d el c off n = true) : rowAt p fits d el c' off n = true := by
  cases d with
  | zero => simp [rowAt] at hh
  | succ d =>
    simp only [rowAt] at hh ⊢
    split at hh
    · cases hh
    · rename_i hs
      rw [if_neg hs]
      simp only [Bool.or_eq_true, Bool.and_eq_true, decide_eq_true_eq] at hh ⊢
      rcases hh with ⟨⟨h1, h2⟩, h3⟩ | ⟨h1, h2⟩
      · exact .inl ⟨⟨h1, by omega⟩, h3⟩
      · exact .inr ⟨by omega, h2⟩
theorem liesAt_mono {p : Program} : ∀ (d : Nat) {el : TypeId} {c c' off : Nat} {u : TypeId} {n : Nat}, c ≤ c' → liesAt p d el c off u n = true → liesAt p d el c' off u n = true
  | 0, _, _, _, _, _, _, _, h => by simp [liesAt] at h
  | d + 1, el, c, c', off, u, n, hc, h => by
    simp only [liesAt, Bool.or_eq_true] at h ⊢
    rcases h with h | h
    · exact .inl (rowAt_mono hc h)
    · refine .inr ?_
      split at h
      · rename_i m u' hu
        exact liesAt_mono d hc h
      · cases h

theorem run_viewAt {c tot : Nat} {el : TypeId} (hs : w.shape? c = some (el, tot)) : (viewAt c).run C.P w = .ok none w := by
  simp [viewAt, hs]
theorem run_seenAt {c off tot : Nat} {el : TypeId} (hs : w.shape? c = some (el, tot)) : (Conv.seenAt ⟨c, off, none⟩).run C.P w = .ok ⟨c, off, none⟩ w := by
  simp [Conv.seenAt, run_viewAt hs]

theorem convPtr_ok {src dst : TypeId} {b off : Nat} {v : AV} (hv : convPtr C h src dst b off = some v) (I : Inv C B w0 μ h next w) {L : Loc} (hL : μ b = some L) :
    ∃ v', VRel μ v v' ∧ (convert src dst (.pointer (some ⟨L.c, off, none⟩))).run C.P w = .ok v' w := by
  unfold convPtr at hv
  split at hv
  · rename_i t c n el ro hs hd hg
    have hob := I.obj b L _ hL hg
    split at hv
    · rename_i k hsz
      split at hv
      · rename_i hlt
        cases hv
        refine ⟨_, .ptr hL, ?_⟩
        have hsh := hob.2.2.1
        have hge : ¬ L.tot ≤ off := by have := hob.2.1; omega
        simp [convert, run_und hs, run_und hd, Conv.unsafePointer, run_seenAt hsh, cellsIn, hsh, run_szT hsz, hge]
      · cases hv
    · cases hv
  · rename_i u c n el ro hs hd hg
    have hob := I.obj b L _ hL hg
    split at hv
    · rename_i k hsz
      split at hv
      · rename_i hlt
        cases hv
        refine ⟨_, .ptr hL, ?_⟩
        have hsh := hob.2.2.1
        have hl : liesAt C.P C.P.depth el (L.tot / C.P.cellsOf el) off u 1 = true := liesAt_mono _ (Nat.div_le_div_right hob.2.1) hlt
        simp [convert, run_und hs, run_und hd, Conv.unsafePointer, run_seenAt hsh, variablesAt, hsh, run_szT hsz, hl]
      · cases hv
    · cases hv
  · cases hv

theorem byteList_ok : ∀ {l : List AV} {bs : List UInt8}, byteList l = some bs → ∀ {vs : List Value}, VRels μ l vs →
    ∃ ns : List Int, vs = ns.map (Value.int .u8) ∧ bs = ns.map fun n => UInt8.ofNat n.toNat
  | [], bs, hb, vs, hr => by cases hr; simp [byteList] at hb; subst hb; exact ⟨[], rfl, rfl⟩
  | a :: l, bs, hb, vs, hr => by
    cases hr with
    | cons h1 h2 =>
      unfold byteList at hb
      split at hb
      · rename_i h; cases h
      · rename_i n l' heq
        cases heq
        split at hb
        · rename_i r hr2
          cases hb
          obtain ⟨ns, e1, e2⟩ := byteList_ok hr2 h2
          subst e1; subst e2
          rw [h1.lit_inv]
          exact ⟨n :: ns, rfl, rfl⟩
        · cases hb
      · cases hb

theorem foldl_push : ∀ (ns : List Int) (s : ByteArray), (List.foldl (fun (b : ByteArray) (a : Int) => (⟨b.data.push (UInt8.ofNat a.toNat)⟩ : ByteArray)) s ns).data.toList = s.data.toList ++ ns.map fun n => UInt8.ofNat n.toNat
  | [], s => by simp
  | n :: ns, s => by simp [foldl_push ns]
theorem run_bytes {f : Value → ByteArray → Sem (ForInStep ByteArray)} (hf : ∀ (n : Int) (r : ByteArray) (w : World), (f (.int .u8 n) r).run C.P w = .ok (ForInStep.yield (r.push (UInt8.ofNat n.toNat))) w) : ∀ (ns : List Int) (s : ByteArray) (w : World),
    (forIn (ns.map (Value.int .u8)) s f : Sem ByteArray).run C.P w = .ok ⟨s.data ++ (ns.map fun n => UInt8.ofNat n.toNat).toArray⟩ w
  | [], s, w => by simp
  | n :: ns, s, w => by
    simp only [List.map_cons, List.forIn_cons, Sem.run_bind, hf, Result.andThen_ok, run_bytes hf ns]
    congr 1
    apply ByteArray.ext
    simp [ByteArray.push]

theorem convStr_ok {src dst : TypeId} {b off len cap' : Nat} {v : AV} (hv : convStr C h src dst b off len = some v) (I : Inv C B w0 μ h next w) {L : Loc} (hL : μ b = some L) :
    ∃ v', VRel μ v v' ∧ (convert src dst (.slice (some ⟨L.c, off, none⟩) len cap')).run C.P w = .ok v' w := by
  unfold convStr at hv
  split at hv
  · rename_i el hs hd
    split at hv
    · rename_i c n el2 ro he hg
      have hob := I.obj b L _ hL hg
      split at hv
      · rename_i hle
        split at hv
        · rename_i l hl
          obtain ⟨vs, r1, r2, r3⟩ := rdCells_ok hob.1 len off l hl hle
          unfold mkStr at hv
          split at hv
          · rename_i bs hbs
            cases hv
            obtain ⟨ns, e1, e2⟩ := byteList_ok hbs r1
            refine ⟨_, .lit _, ?_⟩
            have := run_loadCells_list (P := C.P) w ⟨L.c, off, none⟩ vs (fun j v hv => by rw [add_mk]; exact r3 j v hv)
            rw [r2] at this
            simp only [convert, run_und hs, run_und hd, run_und he, Conv.bytesToString, Sem.run_bind, Result.andThen_ok, this]
            subst e1
            simp only [← Array.forIn_toList, List.toList_toArray]
            rw [run_bytes (C := C) (fun n r w => by simp) ns ByteArray.empty w]
            simp [e2]
          · cases hv
        · cases hv
      · cases hv
    · cases hv
  · cases hv
end
end Go.Ax
set_option linter.unusedVariables false
set_option linter.unusedSimpArgs false
namespace Go.Ax
open Go Go.RowKit
section
variable {C : Cfg} {B : Bd} {w0 w : World} {μ : Mu} {h : H} {next : Nat} {ρ : Env} {e : Operand → Value}

theorem fConvert_ok {src dst : TypeId} {x : Operand} {ty : TypeId} {d : Option Tmp} {pos : String} {af : Array Edge} {g} {v : AV}
    (hv : fConvert C ρ h ⟨d, .convert src dst x, ty, pos, af, g⟩ src dst (ρ x) = some v) (r : ER μ ρ e [x]) (I : Inv C B w0 μ h next w) :
    FOk C μ w e ⟨d, .convert src dst x, ty, pos, af, g⟩ v := by
  unfold fConvert at hv
  split at hv
  · rename_i k n hx
    have ex := (r x (by simp) _ hx).lit_inv
    split at hv
    · rename_i ds k' hs hd
      cases hv
      exact ⟨_, .lit _, by simp [execOp, ex, convert, run_und hs, run_und hd, Conv.intToInt, wrapF_eq]⟩
    · exact pureLit_ok hv (by simpa [Op.operands] using r) w
  · exact pureLit_ok hv (by simpa [Op.operands] using r) w
  · rename_i b off hx
    obtain ⟨L, hL, ex⟩ := (r x (by simp) _ hx).ptr_inv
    obtain ⟨v', h1, h2⟩ := convPtr_ok hv I hL
    exact ⟨v', h1, by simp [execOp, ex, h2]⟩
  · rename_i b off len _ _ _ hx
    obtain ⟨L, cap', hL, _, _, _, _, ex⟩ := (r x (by simp) _ hx).sl_inv
    obtain ⟨v', h1, h2⟩ := convStr_ok (cap' := cap') hv I hL
    exact ⟨v', h1, by simp [execOp, ex, h2]⟩
  · cases hv

theorem fUn_ok {op : UnOp} {t : TypeId} {x : Operand} {ty : TypeId} {d : Option Tmp} {pos : String} {af : Array Edge} {g} {v : AV}
    (hv : fUn C ρ ⟨d, .unOp op t x, ty, pos, af, g⟩ op (ρ x) = some v) (r : ER μ ρ e [x]) : FOk C μ w e ⟨d, .unOp op t x, ty, pos, af, g⟩ v := by
  unfold fUn at hv
  split at hv
  · rename_i b hx
    have ex := (r x (by simp) _ hx).lit_inv
    split at hv
    · cases hv; exact ⟨_, .lit _, by simp [execOp, ex, Op.unary]⟩
    · cases hv
  · exact pureLit_ok hv (by simpa [Op.operands] using r) w
  · cases hv

theorem run_guard {op : BinOp} {t : TypeId} {x y : Operand} {a b : Value} (h : ∀ cs ds, ¬ (a = .agg cs ∧ b = .agg ds)) (h' : ¬ (a = .nilIface ∧ b = .nilIface)) (w : World) : (eqGuard op t x y a b).run C.P w = .ok () w := by
  unfold eqGuard
  split
  · simp only [Bool.not_true, Bool.false_eq_true, if_false]
    cases a <;> cases b <;> first | rfl | (exact absurd ⟨rfl, rfl⟩ h') | (exact absurd ⟨rfl, rfl⟩ (h _ _))
  · simp only [Bool.not_true, Bool.false_eq_true, if_false]
    cases a <;> cases b <;> first | rfl | (exact absurd ⟨rfl, rfl⟩ h') | (exact absurd ⟨rfl, rfl⟩ (h _ _))
  · simp only [Bool.not_false, if_true]; rfl

theorem ptrCmp_ok {op : BinOp} {t : TypeId} {c p q : Nat} {v : AV} (hv : ptrCmp C op t (Nat.beq p q) = some v) (w : World) :
    ∃ u, v = .lit u ∧ (binOp op t (.pointer (some ⟨c, p, none⟩)) (.pointer (some ⟨c, q, none⟩))).run C.P w = .ok u w := by
  unfold ptrCmp at hv
  split at hv
  · rename_i el hu
    split at hv
    · rename_i n hsz
      have key : ∀ d : Nat, (Op.equalIn (d + 1) t (.pointer (some ⟨c, p, none⟩)) (.pointer (some ⟨c, q, none⟩))).run C.P w = .ok (Nat.beq p q) w := fun d => by
        simp [Op.equalIn, run_und hu, run_szT hsz, sameAddr]
        by_cases hpq : p = q
        · subst hpq; simp
        · have h1 : ¬ ((⟨c, p, none⟩ : Addr) = ⟨c, q, none⟩) := by simp [hpq]
          have h2 : Nat.beq p q = false := by rw [beq_dec]; simp [hpq]
          rw [h2]; simpa using hpq
      split at hv
      · cases hv; exact ⟨_, rfl, by simp only [binOp]; simp [Op.equal, Op.maxDepth, key 9999]⟩
      · cases hv; exact ⟨_, rfl, by simp only [binOp]; simp [Op.equal, Op.maxDepth, key 9999]⟩
      · cases hv
    · cases hv
  · cases hv

theorem nilCmp_ok {op : BinOp} {t : TypeId} {a : AV} {u : Value} {v : AV} (hv : nilCmp C op t a u = some v) {a' : Value} (ha : VRel μ a a') (w : World) :
    ∃ z, v = .lit z ∧ (binOp op t a' u).run C.P w = .ok z w ∧ (∀ cs ds, ¬ (a' = .agg cs ∧ u = .agg ds)) ∧ ¬ (a' = .nilIface ∧ u = .nilIface) := by
  unfold nilCmp at hv
  split at hv
  · rename_i d hu
    split at hv
    · rename_i hk
      have key : (∀ n : Nat, (Op.equalIn (n + 1) t a' u).run C.P w = .ok false w) ∧ (∀ cs ds, ¬ (a' = .agg cs ∧ u = .agg ds)) ∧ (¬ (a' = .nilIface ∧ u = .nilIface)) ∧
          (∀ op, op = .eql ∨ op = .neq → binOp op t a' u = (match op with | .eql => do pure (.bool (← Op.equal t a' u)) | _ => do pure (.bool (!(← Op.equal t a' u))))) := by
        unfold nilKind at hk
        split at hk <;> (try (cases hk; done))
        · cases ha; refine ⟨fun n => by simp [Op.equalIn, run_und hu], by simp, by simp, ?_⟩; rintro op (rfl | rfl) <;> rfl
        · cases ha; refine ⟨fun n => by simp [Op.equalIn, run_und hu], by simp, by simp, ?_⟩; rintro op (rfl | rfl) <;> rfl
        · cases ha; refine ⟨fun n => by simp [Op.equalIn, run_und hu], by simp, by simp, ?_⟩; rintro op (rfl | rfl) <;> rfl
        · cases ha; refine ⟨fun n => by simp [Op.equalIn, run_und hu], by simp, by simp, ?_⟩; rintro op (rfl | rfl) <;> rfl
        · cases ha; refine ⟨fun n => by simp [Op.equalIn, run_und hu], by simp, by simp, ?_⟩; rintro op (rfl | rfl) <;> rfl
        · cases ha; refine ⟨fun n => by simp [Op.equalIn, run_und hu], by simp, by simp, ?_⟩; rintro op (rfl | rfl) <;> rfl
      obtain ⟨k1, k2, k3, k4⟩ := key
      split at hv
      · cases hv; exact ⟨_, rfl, by rw [k4 _ (.inl rfl)]; simp [Op.equal, Op.maxDepth, k1 9999], k2, k3⟩
      · cases hv; exact ⟨_, rfl, by rw [k4 _ (.inr rfl)]; simp [Op.equal, Op.maxDepth, k1 9999], k2, k3⟩
      · cases hv
    · cases hv
  · cases hv

theorem fBin_ok {op : BinOp} {t yt : TypeId} {x y : Operand} {ty : TypeId} {d : Option Tmp} {pos : String} {af : Array Edge} {g} {v : AV}
    (hv : fBin C ρ ⟨d, .binOp op t x y yt, ty, pos, af, g⟩ op t (ρ x) (ρ y) = some v) (r : ER μ ρ e [x, y]) : FOk C μ w e ⟨d, .binOp op t x y yt, ty, pos, af, g⟩ v := by
  have pl : ∀ {v : AV}, pureLit C ρ ⟨d, .binOp op t x y yt, ty, pos, af, g⟩ = some v → FOk C μ w e ⟨d, .binOp op t x y yt, ty, pos, af, g⟩ v := fun h => pureLit_ok h (by simpa [Op.operands] using r) w
  have mk : ∀ {a b u : Value}, e x = a → e y = b → (∀ cs ds, ¬ (a = .agg cs ∧ b = .agg ds)) → ¬ (a = .nilIface ∧ b = .nilIface) → (binOp op t a b).run C.P w = .ok u w → FOk C μ w e ⟨d, .binOp op t x y yt, ty, pos, af, g⟩ (.lit u) := by
    intro a b u ea eb h1 h2 hr
    refine ⟨u, .lit _, ?_⟩
    subst ea; subst eb
    simp [execOp, run_guard h1 h2, hr]
  unfold fBin at hv
  split at hv
  · rename_i j a k b hx hy
    have ex := (r x (by simp) _ hx).lit_inv
    have ey := (r y (by simp) _ hy).lit_inv
    unfold intBin at hv
    split at hv
    · split at hv
      · rename_i u hs; cases hv; exact mk ex ey (by simp) (by simp) (run_shift hs w)
      · exact pl hv
    · split at hv
      · rename_i u hs; cases hv; exact mk ex ey (by simp) (by simp) (run_shift hs w)
      · exact pl hv
    · rename_i n1 n2
      split at hv
      · rename_i hjk
        have hjk : j = k := by simpa using hjk
        subst hjk
        split at hv
        · rename_i u hs; cases hv; exact mk ex ey (by simp) (by simp) (run_binOp_int hs ⟨n1, n2⟩ w)
        · exact pl hv
      · cases hv
  · exact pl hv
  · rename_i b p b' q hx hy
    obtain ⟨L, hL, ex⟩ := (r x (by simp) _ hx).ptr_inv
    obtain ⟨L', hL', ey⟩ := (r y (by simp) _ hy).ptr_inv
    split at hv
    · rename_i hb
      have hb : b = b' := by simpa using hb
      subst hb
      rw [hL] at hL'; cases hL'
      obtain ⟨u, rfl, hu⟩ := ptrCmp_ok (c := L.c) hv w
      exact mk ex ey (by simp) (by simp) hu
    · cases hv
  · rename_i a u _ _ hx hy
    have ey := (r y (by simp) _ hy).lit_inv
    obtain ⟨z, rfl, h1, h2, h3⟩ := nilCmp_ok hv (r x (by simp) _ hx) w
    exact mk rfl ey h2 h3 h1
  · exact pl hv
  · cases hv
end
end Go.Ax
set_option linter.unusedVariables false
set_option linter.unusedSimpArgs false
namespace Go.Ax
open Go Go.RowKit
section
variable {C : Cfg} {B : Bd} {w0 w : World} {μ : Mu} {h : H} {next : Nat} {ρ : Env} {e : Operand → Value}

theorem map_args {xs : Array Operand} {vs : List Value} (h : xs.toList.map e = vs) : xs.map e = vs.toArray := by
  apply Array.ext'; simp [h]

theorem evs_one {xs : Array Operand} {a : AV} (hv : evs ρ xs.toList = some [a]) (r : ER μ ρ e xs.toList) : ∃ v, VRel μ a v ∧ xs.map e = #[v] := by
  have := evs_rel hv r
  generalize hm : xs.toList.map e = l at this
  cases this with
  | cons h1 h2 => cases h2; exact ⟨_, h1, map_args hm⟩
theorem evs_two {xs : Array Operand} {a b : AV} (hv : evs ρ xs.toList = some [a, b]) (r : ER μ ρ e xs.toList) : ∃ u v, VRel μ a u ∧ VRel μ b v ∧ xs.map e = #[u, v] := by
  have := evs_rel hv r
  generalize hm : xs.toList.map e = l at this
  cases this with
  | cons h1 h2 => cases h2 with | cons h2 h3 => cases h3; exact ⟨_, _, h1, h2, map_args hm⟩

theorem exec_builtin {c : Call} {b : Builtin} {ty : TypeId} {d : Option Tmp} {pos : String} {af : Array Edge} {g} (hc : c.callee = .builtin b) :
    ∃ cc, execOp e ⟨d, .call c, ty, pos, af, g⟩ = builtin b c.argTypes ty cc (c.args.map e) := by
  simp only [execOp, resolve, hc, pure_bind, invoke]
  exact ⟨_, rfl⟩
theorem call_operands {c : Call} {b : Builtin} (hc : c.callee = .builtin b) : (Op.call c).operands = c.args := by simp [Op.operands, Call.operands, hc]

theorem run_data {P : Program} {ts : Array TypeId} {ty : TypeId} {a : Addr} {l c : Nat} (hc : c ≠ 0) {w : World} : (Builtin.unsafeSliceData_ ts ty #[.slice (some a) l c]).run P w = .ok (.pointer (some a)) w := by
  show Sem.run P (if c ≠ 0 then (pure (Value.pointer (some a)) : Sem Value) else _) w = _
  rw [if_pos hc]; rfl
theorem fCall_ok {c : Call} {ty : TypeId} {d : Option Tmp} {pos : String} {af : Array Edge} {g} {v : AV}
    (hv : fCall C ρ h ⟨d, .call c, ty, pos, af, g⟩ c = some v) (r : ER μ ρ e (Op.call c).operands.toList) (I : Inv C B w0 μ h next w) : FOk C μ w e ⟨d, .call c, ty, pos, af, g⟩ v := by
  have pl : ∀ {v : AV}, pureLit C ρ ⟨d, .call c, ty, pos, af, g⟩ = some v → FOk C μ w e ⟨d, .call c, ty, pos, af, g⟩ v := fun h => pureLit_ok h r w
  unfold fCall at hv
  split at hv
  · rename_i b hc
    have r' : ER μ ρ e c.args.toList := by rw [call_operands hc] at r; exact r
    split at hv
    · -- len
      unfold fLen at hv
      split at hv
      · rename_i bb o n c2 es ex hl
        obtain ⟨u, hu, ha⟩ := evs_one hl r'
        obtain ⟨L, cap', _, _, _, _, _, rfl⟩ := hu.sl_inv
        split at hv
        · rename_i t ht
          split at hv
          · rename_i el hund
            cases hv
            exact ⟨_, .lit _, by obtain ⟨cc, hcc⟩ := exec_builtin (e := e) (ty := ty) (d := d) (pos := pos) (af := af) (g := g) hc; rw [hcc, ha]; simp [builtin, Builtin.len_, ht, run_und hund]; rfl⟩
          · cases hv
        · cases hv
      · rename_i hl
        obtain ⟨u, hu, ha⟩ := evs_one hl r'
        obtain ⟨a, c', rfl⟩ := hu.sl0_inv
        split at hv
        · rename_i t ht
          split at hv
          · rename_i el hund
            cases hv
            exact ⟨_, .lit _, by obtain ⟨cc, hcc⟩ := exec_builtin (e := e) (ty := ty) (d := d) (pos := pos) (af := af) (g := g) hc; rw [hcc, ha]; simp [builtin, Builtin.len_, ht, run_und hund]; rfl⟩
          · cases hv
        · cases hv
      · rename_i bb hl
        obtain ⟨u, hu, ha⟩ := evs_one hl r'
        obtain ⟨L, hL, rfl⟩ := hu.map_inv
        split at hv
        · rename_i t ht
          split at hv
          · rename_i kt et es clock hund hg
            cases hv
            obtain ⟨es', ho, hes⟩ := I.obj bb L _ hL hg
            have hlen : es.length = es'.size := by have := hes.1; simpa using this
            exact ⟨_, .lit _, by obtain ⟨cc, hcc⟩ := exec_builtin (e := e) (ty := ty) (d := d) (pos := pos) (af := af) (g := g) hc; rw [hcc, ha]; simp [builtin, Builtin.len_, ht, run_und hund, getObj, Sem.run, ho, hlen]; rfl⟩
          · cases hv
        · cases hv
      · exact pl hv
      · cases hv
    · -- cap
      unfold fCap at hv
      split at hv
      · rename_i bb o ln n es hl
        obtain ⟨u, hu, ha⟩ := evs_one hl r'
        obtain ⟨L, cap', _, _, hcx, _, _, rfl⟩ := hu.sl_inv
        have hcx := hcx rfl
        subst hcx
        split at hv
        · rename_i t ht
          split at hv
          · rename_i el hund
            cases hv
            exact ⟨_, .lit _, by obtain ⟨cc, hcc⟩ := exec_builtin (e := e) (ty := ty) (d := d) (pos := pos) (af := af) (g := g) hc; rw [hcc, ha]; simp [builtin, Builtin.cap_, ht, run_und hund]; rfl⟩
          · cases hv
        · cases hv
      · exact pl hv
      · cases hv
    · exact pl hv
    · exact pl hv
    · exact pl hv
    · -- data
      unfold fData at hv
      split at hv
      · rename_i bb off ln n es ex hl
        obtain ⟨u, hu, ha⟩ := evs_one hl r'
        obtain ⟨L, cap', hL, h1, _, _, _, rfl⟩ := hu.sl_inv
        cases hv
        have hne : cap' ≠ 0 := by omega
        exact ⟨_, .ptr hL, by obtain ⟨cc, hcc⟩ := exec_builtin (e := e) (ty := ty) (d := d) (pos := pos) (af := af) (g := g) hc; rw [hcc, ha]; simp [builtin, run_data hne]⟩
      · exact pl hv
      · cases hv
    · cases hv
  · cases hv

/-! building an aggregate -/
theorem fill_step (cells : List Value) (vs : List Value) (off : Nat) (h : off + vs.length ≤ cells.length) :
    (vs.toArray.zipIdx.foldl (fun (cs : Array Value) (p : Value × Nat) => cs.setIfInBounds (off + p.2) p.1) cells.toArray) = (cells.take off ++ vs ++ cells.drop (off + vs.length)).toArray := by
  have key : ∀ (vs : List Value) (k : Nat) (cells : List Value), off + k + vs.length ≤ cells.length →
      (vs.zipIdx k).foldl (fun (cs : Array Value) (p : Value × Nat) => cs.setIfInBounds (off + p.2) p.1) cells.toArray = (cells.take (off + k) ++ vs ++ cells.drop (off + k + vs.length)).toArray := by
    intro vs
    induction vs with
    | nil => intro k cells h; simp
    | cons v vs ih =>
      intro k cells h
      simp at h
      simp only [List.zipIdx_cons, List.foldl_cons]
      have e1 : cells.toArray.setIfInBounds (off + k) v = (cells.set (off + k) v).toArray := by simp
      rw [e1, ih (k + 1) (cells.set (off + k) v) (by simp; omega)]
      congr 1
      have := list_seg_step cells (off + k) v vs (by omega)
      rw [show off + (k + 1) = off + k + 1 by omega, this]
      simp [Nat.add_assoc]
  have := key vs 0 cells (by simpa using h)
  rw [← Array.foldl_toList]
  simpa using this

theorem fillA_ok {place : Nat → Option (Nat × Nat)} : ∀ {ps : List (Nat × AV)} {cells cs : List AV}, fillA place cells ps = some cs → ∀ {cells' : List Value} {qs : List (Nat × Value)}, VRels μ cells cells' →
    ps.length = qs.length → (∀ (i : Nat) p q, ps[i]? = some p → qs[i]? = some q → p.1 = q.1 ∧ VRel μ p.2 q.2) → ∃ cs' : List Value, VRels μ cs cs' ∧ Instr.fill place cells'.toArray qs = some cs'.toArray
  | [], cells, cs, hv, cells', qs, hr, hl, hp => by
    have : qs = [] := by simpa using hl.symm
    subst this
    simp [fillA] at hv; subst hv
    exact ⟨cells', hr, rfl⟩
  | (i, v) :: ps, cells, cs, hv, cells', qs, hr, hl, hp => by
    cases qs with
    | nil => simp at hl
    | cons q qs =>
      obtain ⟨i', v'⟩ := q
      obtain ⟨e1, e2⟩ := hp 0 (i, v) (i', v') rfl rfl
      simp at e1; subst e1
      unfold fillA at hv
      split at hv
      · cases hv
      · rename_i off size hpl
        split at hv
        · cases hv
        · rename_i hcond
          simp only [Bool.or_eq_true, decide_eq_true_eq, not_or, Nat.not_lt, ne_eq, Decidable.not_not, gt_iff_lt] at hcond
          obtain ⟨c1, c2⟩ := hcond
          have hc := e2.cells
          have l1 := hc.length
          have l2 := hr.length
          have hvs : v'.cells.size = size := by rw [← c1, l1]; simp
          obtain ⟨cs', r1, r2⟩ := fillA_ok hv (((hr.take off).append hc).append (hr.drop (off + v.cells.length))) (by simpa using hl) (fun j p q h1 h2 => hp (j + 1) p q (by simpa using h1) (by simpa using h2))
          refine ⟨cs', r1, ?_⟩
          simp only [Instr.fill, hpl]
          rw [if_neg (by simp [hvs]; simp [hvs] at *; omega)]
          have := fill_step cells' v'.cells.toList off (by simp; simp at l1 l2; omega)
          simp only [Array.toArray_toList] at this
          rw [this]
          rw [l1] at r2
          simpa using r2

theorem placesOf_ok : ∀ {fs : List Field} {pl : List (Nat × Nat)}, placesOf C.P fs = some pl → ∀ w : World, (fs.mapM (fun f => Prod.mk f.offset <$> sizeOf f.type) : Sem (List (Nat × Nat))).run C.P w = .ok pl w
  | [], pl, hv, w => by simp [placesOf] at hv; subst hv; rfl
  | f :: fs, pl, hv, w => by
    unfold placesOf at hv
    split at hv
    · rename_i s r h1 h2
      cases hv
      have ih := placesOf_ok h2 w
      simp only [List.mapM_cons, Sem.run_bind, Sem.run_map, run_szT h1, Result.andThen_ok, ih, Sem.run_pure]
    · cases hv

theorem abuild_ok {t : TypeId} {ps : List (Nat × AV)} {v : AV} (hv : abuild C t ps = some v) {qs : List (Nat × Value)} (hl : ps.length = qs.length)
    (hp : ∀ (i : Nat) p q, ps[i]? = some p → qs[i]? = some q → p.1 = q.1 ∧ VRel μ p.2 q.2) (w : World) : ∃ v', VRel μ v v' ∧ (Instr.build t qs.toArray).run C.P w = .ok v' w := by
  unfold abuild at hv
  split at hv
  · cases hv
  · rename_i z hz
    obtain ⟨zv, hzr, rfl⟩ := run_zeroT hz w
    have hc := (VRel.ofV (μ := μ) zv).cells
    split at hv
    · rename_i fields hu
      split at hv
      · rename_i pl hpl
        unfold mkAgg at hv
        split at hv
        · rename_i cs hf
          cases hv
          obtain ⟨cs', r1, r2⟩ := fillA_ok hf hc hl hp
          have hm := placesOf_ok hpl w
          refine ⟨_, .agg r1, ?_⟩
          simp only [Array.toArray_toList] at r2
          have hm2 : (fields.mapM (fun f => Prod.mk f.offset <$> sizeOf f.type) : Sem (Array (Nat × Nat))).run C.P w = .ok pl.toArray w := by
            rw [Array.mapM_eq_mapM_toList]; simp [hm]
          simp [Instr.build, hzr, run_und hu, hm2, r2]
        · cases hv
      · cases hv
    · rename_i n elem hu
      split at hv
      · rename_i s hs
        unfold mkAgg at hv
        split at hv
        · rename_i cs hf
          cases hv
          obtain ⟨cs', r1, r2⟩ := fillA_ok hf hc hl hp
          refine ⟨_, .agg r1, ?_⟩
          simp only [Array.toArray_toList] at r2
          simp [Instr.build, hzr, run_und hu, run_szT hs, r2]
        · cases hv
      · cases hv
    · cases hv

theorem fBuild_ok {t : TypeId} {parts : Array (Nat × Operand)} {ty : TypeId} {d : Option Tmp} {pos : String} {af : Array Edge} {g} {v : AV}
    (hv : fBuild C t (evParts ρ parts.toList) = some v) (r : ER μ ρ e (Op.build t parts).operands.toList) : FOk C μ w e ⟨d, .build t parts, ty, pos, af, g⟩ v := by
  unfold fBuild at hv
  split at hv
  · rename_i ps hps
    obtain ⟨qs, h1, h2, h3⟩ := evParts_rel hps (e := e) (μ := μ) (fun x hx => r x (by simpa [Op.operands] using hx))
    obtain ⟨v', h4, h5⟩ := abuild_ok hv h2 h3 w
    refine ⟨v', h4, ?_⟩
    have : (parts.map fun (p : Nat × Operand) => (p.1, e p.2)) = qs.toArray := by apply Array.ext'; simp [← h1]
    simp only [execOp]
    simp [this, h5]
  · cases hv

/-- **quiet operations** -/
theorem evF_ok {o : Oper} {v : AV} (hv : evF C ρ h o = some v) (r : ER μ ρ e o.op.operands.toList) (I : Inv C B w0 μ h next w) : FOk C μ w e o v := by
  obtain ⟨d, op, ty, pos, af, g⟩ := o
  unfold evF at hv
  cases op <;> simp only [actF] at hv <;> (try (cases hv; done))
  case move x => exact ⟨e x, r x (by simp [Op.operands]) v hv, rfl⟩
  case assign x => exact ⟨e x, r x (by simp [Op.operands]) v hv, rfl⟩
  case pick c a b => exact fPick_ok hv (by simpa [Op.operands] using r)
  case build t parts => exact fBuild_ok hv r
  case load t a => exact fLoad_ok hv (by simpa [Op.operands] using r) I
  case nilCheck x => exact fNil_ok hv (by simpa [Op.operands] using r)
  case makeFunc fn first captured => exact fMake_ok hv (by simpa [Op.operands] using r)
  case slice t x lo hi mx => exact fSlice_ok hv r I
  case fieldAddr s x f => exact fFieldAddr_ok hv (by simpa [Op.operands] using r)
  case field t x f => exact fField_ok hv (by simpa [Op.operands] using r)
  case indexAddr t x i => exact fIndexAddr_ok hv (by simpa [Op.operands] using r)
  case index t x i => exact fIndex_ok hv (by simpa [Op.operands] using r)
  case lookup t x i ok => exact fLookup_ok hv (by simpa [Op.operands] using r) I
  case extract t i => exact fExtract_ok hv (by simpa [Op.operands] using r)
  case convert src dst x => exact fConvert_ok hv (by simpa [Op.operands] using r) I
  case binOp op t x y yt => exact fBin_ok hv (by simpa [Op.operands] using r)
  case call c => exact fCall_ok hv r I
  case unOp op t x => exact fUn_ok hv (by simpa [Op.operands] using r)
end
end Go.Ax
set_option linter.unusedVariables false
set_option linter.unusedSimpArgs false
namespace Go.Ax
open Go Go.RowKit
section
variable {C : Cfg} {B : Bd} {w0 w : World} {μ : Mu} {h : H} {next : Nat} {ρ : Env} {e : Operand → Value}

theorem get_wrCells : ∀ (l : List AV) (c : T AV) (off i : Nat), (wrCells c off l).get i = if off ≤ i ∧ i < off + l.length then l[i - off]? else c.get i
  | [], c, off, i => by simp [wrCells]; omega
  | v :: l, c, off, i => by
    simp only [wrCells, get_wrCells l, T.get_put]
    by_cases h1 : off + 1 ≤ i ∧ i < off + 1 + l.length
    · have h2 : off ≤ i ∧ i < off + (v :: l).length := by simp; omega
      rw [if_pos (by omega), if_pos h2]
      obtain ⟨m, rfl⟩ : ∃ m, i = off + 1 + m := ⟨i - (off + 1), by omega⟩
      have e1 : off + 1 + m - Nat.succ off = m := by omega
      have e2 : off + 1 + m - off = m + 1 := by omega
      simp [e1, e2]
    · rw [if_neg (by omega)]
      by_cases h2 : i = off
      · subst h2; simp
      · rw [if_neg h2, if_neg (by simp; omega)]

theorem alloc_new (w : World) (o : Obj) : (w.alloc o).heap[w.heap.size]? = some o := by
  show (w.heap.push o)[w.heap.size]? = _
  simp
theorem alloc_cell {arr : Array Value} {t : TypeId} {i : Nat} : (w.alloc (.cells arr t)).cell? ⟨w.heap.size, i, none⟩ = arr[i]? := by
  simp only [World.cell?, alloc_new]; rfl
theorem alloc_shape {arr : Array Value} {t : TypeId} : (w.alloc (.cells arr t)).shape? w.heap.size = some (t, arr.size) := by
  simp only [World.shape?, alloc_new]
theorem alloc_frozen {arr : Array Value} {t : TypeId} {i : Nat} : (w.alloc (.cells arr t)).frozen? ⟨w.heap.size, i, none⟩ = false := by
  simp only [World.frozen?, alloc_new]; simp
theorem info_parts {t : TypeId} {s by' : Nat} {z : AV} (h1 : szT C.P t = some s) (h2 : bytesT C.P t = some by') (h3 : zeroT C.P t = some z) :
    ∃ i zv, C.P.info? t = some i ∧ i.size = s ∧ i.bytes = by' ∧ i.zero = some zv ∧ z = ofV zv := by
  unfold szT at h1; unfold bytesT at h2; unfold zeroT at h3
  cases hi : C.P.info? t with
  | none => simp [hi] at h1
  | some i =>
    simp [hi] at h1 h2 h3
    cases hz : i.zero with
    | none => simp [hz] at h3
    | some zv => simp [hz] at h3; exact ⟨i, zv, rfl, h1, h2, hz, h3.symm⟩

/-- a row of cells, new -/
theorem Inv.row (I : Inv C B w0 μ h next w) {b : Nat} {l : List AV} {vs : List Value} {t : TypeId} {arr : Array Value} (hb : b < next) (hm : μ b = none) (hh : h.get b = some (.cells (wrCells .e 0 l) l.length t false))
    (hr : VRels μ l vs) (ha : ∀ (i : Nat) v, vs[i]? = some v → arr[i]? = some v) (hsz : vs.length ≤ arr.size) :
    Inv C B w0 (μ.add b ⟨w.heap.size, arr.size⟩) h next (w.alloc (.cells arr t)) := by
  refine I.commit hb hm hh _ arr.size ⟨fun i hi => ?_, by rw [hr.length]; exact hsz, alloc_shape, fun _ i => alloc_frozen⟩
  obtain ⟨v, hv, hvr⟩ := hr.get (List.getElem?_eq_getElem hi)
  refine ⟨l[i], v, ?_, by rw [alloc_cell]; exact ha i v hv, hvr.mono (Mu.le_add hm _)⟩
  rw [get_wrCells, if_pos (by omega)]; simp [hi]

/-- what an operation that makes a block must come to -/
def AOk (C : Cfg) (B : Bd) (w0 : World) (μ : Mu) (h : H) (next : Nat) (w : World) (e : Operand → Value) (o : Oper) (b : Nat) (v : AV) : Prop :=
  ∃ v' obj tot, VRel (μ.add b ⟨w.heap.size, tot⟩) v v' ∧ (execOp e o).run C.P w = .ok (.value v') (w.alloc obj) ∧ Inv C B w0 (μ.add b ⟨w.heap.size, tot⟩) h next (w.alloc obj)

theorem aBox_ok {o : Oper} {b : Nat} {t : TypeId} {x : Option AV} {ob : AO} {v : AV} (hv : aBox b t x = some (ob, v)) {x' : Value} (hx : ∀ a, x = some a → VRel μ a x')
    (hrun : ∀ a, x = some a → execOp e o = do pure (.value (← (do pure (.pointer (some (← newVar t x')))))))
    (I : Inv C B w0 μ h next w) (hb : b < next) (hm : μ b = none) (hh : h.get b = some ob) : AOk C B w0 μ h next w e o b v := by
  unfold aBox at hv
  split at hv
  · rename_i a
    cases hv
    have hc := (hx a rfl).cells
    refine ⟨.pointer (some ⟨w.heap.size, 0, none⟩), .cells x'.cells t, x'.cells.size, ?_, ?_, I.row hb hm hh hc (fun i v hv => by simpa using hv) (by simp)⟩
    · exact VRel.ptr (L := ⟨w.heap.size, x'.cells.size⟩) (Mu.add_same _ _ _)
    · rw [hrun a rfl]; simp [newVar, newRow]
  · cases hv

theorem repl_get (l : List AV) (hl : 0 < l.length) : ∀ (n i : Nat), i < n * l.length → (repl l n)[i]? = l[i % l.length]?
  | 0, i, h => by simp at h
  | n + 1, i, h => by
    simp only [repl, List.getElem?_append]
    by_cases hi : i < l.length
    · simp [hi, Nat.mod_eq_of_lt hi]
    · have : (n + 1) * l.length = n * l.length + l.length := by rw [Nat.add_mul]; simp
      rw [if_neg hi, repl_get l hl n _ (by omega), (Nat.mod_eq_sub_mod (by omega : l.length ≤ i)).symm]
theorem repl_length (l : List AV) : ∀ n, (repl l n).length = n * l.length
  | 0 => by simp [repl]
  | n + 1 => by simp [repl, repl_length l n, Nat.add_mul]; omega

theorem repl_rel {l : List AV} {z : Array Value} (hr : VRels μ l z.toList) (hl : 0 < l.length) (n : Nat) : VRels μ (repl l n) ((Array.range (n * z.size)).map (z[· % z.size]!)).toList := by
  have hz : z.size = l.length := by have := hr.length; simp at this; omega
  refine VRels.of_get (by simp [repl_length, hz]) fun i a v ha hv => ?_
  have hi : i < n * l.length := by
    have := (List.getElem?_eq_some_iff.1 ha).1; rwa [repl_length] at this
  rw [repl_get l hl n i hi] at ha
  obtain ⟨u, hu, hur⟩ := hr.get ha
  have hm : i % z.size < z.size := Nat.mod_lt _ (by omega)
  have : v = u := by
    rw [hz] at hm
    simp [hz, hi] at hv
    simp [hz, hm] at hu
    rw [← hv, ← hu]
    simp [hz, hm]
  rw [this]; exact hur

theorem aMake_ok {t elem : TypeId} {x y : Operand} {l c : Nat} {k k' : IntKind} {ty : TypeId} {d : Option Tmp} {pos : String} {af : Array Edge} {g} {b : Nat} {ob : AO} {v : AV}
    (hv : aMake C b elem l c = some (ob, v)) (hu : C.P.underlying t = some (.slice elem)) (ex : e x = .int k (l : Int)) (ey : e y = .int k' (c : Int))
    (I : Inv C B w0 μ h next w) (hb : b < next) (hm : μ b = none) (hh : h.get b = some ob) : AOk C B w0 μ h next w e ⟨d, .makeSlice t x y, ty, pos, af, g⟩ b v := by
  unfold aMake at hv
  split at hv
  · rename_i s by' z hs hby hz
    split at hv
    · rename_i hc
      obtain ⟨h1, h2, h3, h4, h5⟩ := hc
      cases hv
      obtain ⟨i, zv, hi, rfl, rfl, hzz, rfl⟩ := info_parts hs hby hz
      have hcr := (VRel.ofV (μ := μ) zv).cells
      have hzs : zv.cells.size = i.size := by have := hcr.length; simp at this; omega
      have hrep := repl_rel hcr (by omega) c
      have hlen : (repl (ofV zv).cells c).length = c * i.size := by rw [repl_length, h4]
      have hh' : h.get b = some (.cells (wrCells .e 0 (repl (ofV zv).cells c)) (repl (ofV zv).cells c).length elem false) := by rw [hlen]; exact hh
      rw [hzs] at hrep
      have e0 : ((Array.range (c * i.size)).map (zv.cells[· % i.size]!)) = madeCells zv.cells (c * i.size) := by simp [madeCells, hzs]
      rw [e0] at hrep
      have I' := I.row (t := elem) (arr := madeCells zv.cells (c * i.size)) hb hm hh' hrep (fun j v hv => by rw [Array.getElem?_toList] at hv; exact hv) (by simp)
      refine ⟨.slice (some ⟨w.heap.size, 0, none⟩) l c, .cells (madeCells zv.cells (c * i.size)) elem, _, ?_, ?_, I'⟩
      · exact VRel.sl (L := ⟨w.heap.size, _⟩) (Mu.add_same _ _ _) (Nat.le_refl _) (fun _ => rfl) h1 (by simp [size_madeCells])
      · have hbytes : (i.bytes : Int) * (c : Int) ≤ 281474976710656 := by
          have : ((i.bytes * c : Nat) : Int) ≤ 2 ^ 47 := by exact_mod_cast h3
          simp at this; omega
        have := run_make (P := C.P) w t elem i zv hu hi hzz k k' (l : Int) (c : Int) (by omega) (by omega) hbytes (by omega)
        simp only [execOp, ex, ey]
        simp at this
        simp [this]
    · cases hv
  · cases hv

theorem aBuildSlice_ok {t elem : TypeId} {len : Nat} {parts : Array (Nat × Operand)} {ps : List (Nat × AV)} {ty : TypeId} {d : Option Tmp} {pos : String} {af : Array Edge} {g} {b : Nat} {ob : AO} {v : AV}
    (hv : aBuildSlice C b elem len ps = some (ob, v)) (hu : C.P.underlying t = some (.slice elem)) (hps : evParts ρ parts.toList = some ps) (r : ER μ ρ e (Op.buildSlice t len parts).operands.toList)
    (I : Inv C B w0 μ h next w) (hb : b < next) (hm : μ b = none) (hh : h.get b = some ob) : AOk C B w0 μ h next w e ⟨d, .buildSlice t len parts, ty, pos, af, g⟩ b v := by
  unfold aBuildSlice at hv
  split at hv
  · rename_i s z hs hz
    split at hv
    · rename_i hc
      obtain ⟨h1, h2, h3⟩ := hc
      split at hv
      · rename_i cs hf
        cases hv
        obtain ⟨qs, q1, q2, q3⟩ := evParts_rel hps (e := e) (μ := μ) (fun x hx => r x (by simpa [Op.operands] using hx))
        obtain ⟨zv, hzr, rfl⟩ := run_zeroT hz w
        have hcr := (VRel.ofV (μ := μ) zv).cells
        have hzs : zv.cells.size = s := by have := hcr.length; simp at this; omega
        have hrep := repl_rel hcr (by omega) len
        obtain ⟨cs', r1, r2⟩ := fillA_ok hf hrep q2 q3
        have hl2 := r1.length
        have hcl : cs.length = len * s := by
          have : ∀ {ps : List (Nat × AV)} {cells cs : List AV}, fillA (fun i => some (i * s, s)) cells ps = some cs → cs.length = cells.length := by
            intro ps
            induction ps with
            | nil => intro cells cs h; simp [fillA] at h; subst h; rfl
            | cons p ps ih =>
              intro cells cs h
              unfold fillA at h
              simp only at h
              split at h
              · cases h
              · rename_i hcond
                simp only [Bool.or_eq_true, decide_eq_true_eq, not_or, Nat.not_lt, ne_eq, Decidable.not_not, gt_iff_lt] at hcond
                have := ih h
                simp at this
                omega
          rw [this hf, repl_length, h2]
        have I' := I.row (t := elem) (arr := cs'.toArray) hb hm hh r1 (fun j v hv => by simpa using hv) (by simp)
        refine ⟨.slice (some ⟨w.heap.size, 0, none⟩) len len, .cells cs'.toArray elem, _, ?_, ?_, I'⟩
        · exact VRel.sl (L := ⟨w.heap.size, _⟩) (Mu.add_same _ _ _) (Nat.le_refl _) (fun _ => rfl) (Nat.le_refl _) (by simp; omega)
        · have e1 : (parts.map fun (p : Nat × Operand) => (p.1, e p.2)) = qs.toArray := by apply Array.ext'; simp [← q1]
          have e2 : ¬ (2 ^ 24 < len * s) := by omega
          simp only [Array.toArray_toList] at r2
          simp only [execOp]
          simp only [e1, Instr.buildSlice, Sem.run_bind, run_und hu, Result.andThen_ok, run_szT hs]
          have e2' : ¬ (len * s > 2 ^ 24) := by omega
          rcases Nat.eq_zero_or_pos len with h0 | h0
          · subst h0
            have hz0 : ∀ (f : Nat → Value), (Array.range 0).map f = #[] := fun f => by apply Array.ext'; simp
            simp only [Nat.zero_mul, hz0] at r2 ⊢
            simp [hz0, r2, newRow]
          · have e3 : ¬ (len * s = 0) := Nat.ne_of_gt (Nat.mul_pos h0 h3)
            rw [hzs] at r2
            simp only [e2', e3, if_false, Sem.run_bind, hzr, Result.andThen_ok, Sem.run_pure, hzs]
            simp [r2, newRow]
      · cases hv
    · cases hv
  · cases hv

/-- **operations that make a block** -/
theorem evA_ok {o : Oper} {b : Nat} {ob : AO} {v : AV} (hv : evA C ρ o b = some (ob, v)) (r : ER μ ρ e o.op.operands.toList)
    (I : Inv C B w0 μ h next w) (hb : b < next) (hm : μ b = none) (hh : h.get b = some ob) : AOk C B w0 μ h next w e o b v := by
  obtain ⟨d, op, ty, pos, af, g⟩ := o
  unfold evA at hv
  cases op <;> simp only at hv <;> (try (cases hv; done))
  case alloc t =>
    cases hz : zeroT C.P t with
    | none => rw [hz] at hv; cases hv
    | some z =>
      rw [hz] at hv
      obtain ⟨i, zv, hi, hzz, rfl⟩ : ∃ i zv, C.P.info? t = some i ∧ i.zero = some zv ∧ z = ofV zv := by
        unfold zeroT at hz
        cases hi : C.P.info? t with
        | none => simp [hi] at hz
        | some i =>
          simp [hi] at hz
          cases hzz : i.zero with
          | none => simp [hzz] at hz
          | some zv => simp [hzz] at hz; exact ⟨i, zv, rfl, hzz, hz.symm⟩
      have hc := (VRel.ofV (μ := μ) zv).cells
      unfold aBox at hv
      cases hv
      refine ⟨.pointer (some ⟨w.heap.size, 0, none⟩), .cells zv.cells t, zv.cells.size, ?_, ?_, I.row hb hm hh hc (fun i v hv => by simpa using hv) (by simp)⟩
      · exact VRel.ptr (L := ⟨w.heap.size, zv.cells.size⟩) (Mu.add_same _ _ _)
      · simp [execOp, Instr.alloc, zeroValue, typeInfo, hi, hzz, newVar, newRow]
  case box t x =>
    exact aBox_ok hv (fun a ha => r x (by simp [Op.operands]) a ha) (fun a ha => rfl) I hb hm hh
  case buildSlice t len parts =>
    split at hv
    · rename_i elem ps hu hps
      exact aBuildSlice_ok hv hu hps r I hb hm hh
    · cases hv
  case makeMap t res =>
    cases res with
    | some _ => simp at hv
    | none =>
      simp at hv
      obtain ⟨rfl, rfl⟩ := hv
      refine ⟨.map (some w.heap.size), .map #[] 0, 0, VRel.map (L := ⟨w.heap.size, 0⟩) (Mu.add_same _ _ _), ?_, ?_⟩
      · simp [execOp, Instr.makeMap]
      · refine I.commit hb hm hh _ 0 ⟨#[], alloc_new _ _, rfl, fun i x e h1 => by simp at h1⟩
  case makeSlice t x y =>
    split at hv
    · rename_i elem k l k' c hu hx hy
      exact aMake_ok hv hu (r x (by simp [Op.operands]) _ hx).lit_inv (r y (by simp [Op.operands]) _ hy).lit_inv I hb hm hh
    · cases hv
  case range t x =>
    split at hv
    · rename_i s hu hx
      cases hv
      have ex := (r x (by simp [Op.operands]) _ hx).lit_inv
      refine ⟨.pointer (some ⟨w.heap.size, 0, none⟩), .stringIter s 0, 0, VRel.ptr (L := ⟨w.heap.size, 0⟩) (Mu.add_same _ _ _), ?_, ?_⟩
      · simp [execOp, ex, Instr.range, run_und hu]
      · exact I.commit hb hm hh _ 0 (alloc_new _ _)
    · cases hv
end
end Go.Ax
set_option linter.unusedVariables false
set_option linter.unusedSimpArgs false
namespace Go.Ax
open Go Go.RowKit
section
variable {C : Cfg} {B : Bd} {w0 w : World} {μ : Mu} {h : H} {next : Nat} {ρ : Env} {e : Operand → Value}

theorem setCells_heap (c : Nat) : ∀ (vs : List Value) (o : Nat) (w : World) (k : Nat), k ≠ c → (w.setCells c o vs).heap[k]? = w.heap[k]?
  | [], _, _, _, _ => rfl
  | v :: vs, o, w, k, hk => by
    rw [World.setCells, setCells_heap c vs _ _ k hk]
    exact Below.heap_setCell w _ v k hk
theorem setCells_size (c : Nat) : ∀ (vs : List Value) (o : Nat) (w : World), (w.setCells c o vs).heap.size = w.heap.size
  | [], _, _ => rfl
  | v :: vs, o, w => by rw [World.setCells, setCells_size c vs]; simp [World.setCell]
theorem setCell_shape (w : World) (a : Addr) (v : Value) (c : Nat) : (w.setCell a v).shape? c = w.shape? c := by
  simp only [World.shape?, World.setCell, Array.getElem?_modify]
  by_cases hc : a.block = c
  · rw [if_pos hc]
    cases w.heap[c]? with
    | none => rfl
    | some o => cases o <;> simp <;> split <;> simp
  · rw [if_neg hc]
theorem setCells_shape (c : Nat) : ∀ (vs : List Value) (o : Nat) (w : World) (k : Nat), (w.setCells c o vs).shape? k = w.shape? k
  | [], _, _, _ => rfl
  | v :: vs, o, w, k => by rw [World.setCells, setCells_shape c vs, setCell_shape]
theorem setCells_below {b0 : Nat} (c : Nat) (hc : b0 ≤ c) : ∀ (vs : List Value) (o : Nat) (w : World), Below b0 w (w.setCells c o vs)
  | [], _, w => Below.refl _ _
  | v :: vs, o, w => by rw [World.setCells]; exact ((Below.refl _ w).setCell hc v).trans (setCells_below c hc vs _ _)

theorem allCell_mem : ∀ {l : List AV}, allCell l = true → ∀ {vs : List Value}, VRels μ l vs → ∀ v ∈ vs, v.oneCell' = true
  | [], _, vs, hr, v, hv => by cases hr; simp at hv
  | a :: l, h, vs, hr, v, hv => by
    cases hr with
    | cons h1 h2 =>
      unfold allCell at h
      split at h
      · rename_i ha
        simp at hv
        rcases hv with rfl | hv
        · exact h1.oneCell ha
        · exact allCell_mem h h2 v hv
      · cases h

theorem astoreCells_ok {b off : Nat} {l : List AV} {h' : H} (hs : astoreCells h b off l = some h') (I : Inv C B w0 μ h next w) {L : Loc} (hL : μ b = some L) {vs : List Value} (hr : VRels μ l vs) :
    (storeCells ⟨L.c, off, none⟩ vs).run C.P w = .ok () (w.setCells L.c off vs) ∧ Inv C B w0 μ h' next (w.setCells L.c off vs) ∧ ∃ ob, h' = h.put b ob ∧ (h.get b).isSome := by
  unfold astoreCells at hs
  split at hs
  · rename_i c n el hg
    split at hs
    · rename_i hle
      split at hs
      · rename_i hall
        cases hs
        have hob := I.obj b L _ hL hg
        have hle' : off + l.length ≤ n := Nat.le_of_ble_eq_true hle
        have hlen := hr.length
        have hcell : ∀ j, j < vs.length → (w.cell? ⟨L.c, off + j, none⟩).isSome = true := fun j hj => by
          obtain ⟨v, hv⟩ := cell_of_shape hob.2.2.1 (i := off + j) (by have := hob.2.1; omega)
          simp [hv]
        have hrun := run_storeCells_cells (P := C.P) L.c off vs 0 w (by simpa using hcell) (fun j _ => hob.2.2.2 rfl _) (allCell_mem hall hr)
        refine ⟨by simpa using hrun, ?_, _, rfl, by simp [hg]⟩
        refine I.turn hL hg rfl (setCells_below _ (I.own b L _ hL hg rfl) _ _ _) (Nat.le_of_eq (setCells_size _ _ _ _).symm) (fun k hk _ => setCells_heap _ _ _ _ k hk) ⟨fun i hi => ?_, hob.2.1, by rw [setCells_shape]; exact hob.2.2.1, fun _ i => by rw [World.frozen?_setCells]; exact hob.2.2.2 rfl i⟩
        rw [get_wrCells]
        by_cases hin : off ≤ i ∧ i < off + l.length
        · rw [if_pos hin]
          have hj : i - off < l.length := by omega
          obtain ⟨u, hu, hur⟩ := hr.get (List.getElem?_eq_getElem hj)
          refine ⟨_, u, List.getElem?_eq_getElem hj, ?_, hur⟩
          have hj' : i - off < vs.length := by omega
          have := World.cell?_setCells_in L.c vs off w hcell (i - off) hj'
          rw [show off + (i - off) = i by omega] at this
          rw [this]
          rw [← hu, List.getElem?_eq_getElem hj']
        · rw [if_neg hin]
          obtain ⟨a, u, ha, hu, hur⟩ := hob.1 i hi
          refine ⟨a, u, ha, ?_, hur⟩
          rw [World.cell?_setCells_out L.c vs off w _ (fun _ _ => by simp; omega)]
          exact hu
      · cases hs
    · cases hs
  · cases hs

theorem Ext.put {n0 b : Nat} {ob : AO} {L : Loc} (hL : μ b = some L) : Ext n0 μ h μ (h.put b ob) :=
  ⟨Mu.le.refl _, fun x _ hx => ⟨hx, by rw [T.get_put, if_neg]; intro e; subst e; rw [hL] at hx; cases hx⟩⟩

/-- what a writing operation must come to -/
def WOk (C : Cfg) (B : Bd) (w0 : World) (μ : Mu) (h : H) (next : Nat) (w : World) (e : Operand → Value) (o : Oper) (v : AV) (h' : H) (next' : Nat) : Prop :=
  ∃ v' w' nx μ', (execOp e o).run C.P w = .ok nx w' ∧ (nx = .value v' ∨ nx = .skip ∧ v' = undef) ∧ Ext next μ h μ' h' ∧ VRel μ' v v' ∧ Inv C B w0 μ' h' next' w' ∧ next ≤ next'

theorem wStore_ok {t : TypeId} {a x : Operand} {ty : TypeId} {d : Option Tmp} {pos : String} {af : Array Edge} {g} {v : AV} {h' : H} {next' : Nat}
    (hv : wStore C h next t (ρ a) (ρ x) = some (v, h', next')) (r : ER μ ρ e [a, x]) (I : Inv C B w0 μ h next w) : WOk C B w0 μ h next w e ⟨d, .store t a x, ty, pos, af, g⟩ v h' next' := by
  unfold wStore at hv
  split at hv
  · rename_i b off u ha hx
    obtain ⟨L, hL, ea⟩ := (r a (by simp) _ ha).ptr_inv
    have hr := r x (by simp) _ hx
    split at hv
    · rename_i h2 hs
      cases hv
      unfold astore at hs
      split at hs
      · rename_i s hsz
        split at hs
        · rename_i hlen
          have hlen : u.cells.length = s := by simpa using hlen
          obtain ⟨q1, q2, ob, q3, q4⟩ := astoreCells_ok hs I hL hr.cells
          have hcs : (e x).cells.size = s := by have := hr.cells.length; simp at this; omega
          refine ⟨undef, _, .skip, μ, ?_, .inr ⟨rfl, rfl⟩, by rw [q3]; exact Ext.put hL, .tup .nil, q2, Nat.le_refl _⟩
          simp [execOp, ea, Instr.storeAt, Instr.sureAddr, storeVar, run_szT hsz, hcs, q1]
        · cases hs
      · cases hs
    · cases hv
  · cases hv

def putO (w : World) (r : Nat) (o : Obj) : World := { w with heap := w.heap.setIfInBounds r o }
theorem putO_same {r : Nat} {o : Obj} (hr : r < w.heap.size) : (putO w r o).heap[r]? = some o := by simp [putO, hr]
theorem putO_other {r k : Nat} {o : Obj} (hk : k ≠ r) : (putO w r o).heap[k]? = w.heap[k]? := by
  simp only [putO]; rw [Array.getElem?_setIfInBounds_ne (Ne.symm hk)]
theorem putO_below {b0 r : Nat} {o : Obj} (hr : b0 ≤ r) : Below b0 w (putO w r o) := ⟨rfl, rfl, rfl, by simp [putO], fun k hk => putO_other (by omega)⟩
theorem Inv.putO (I : Inv C B w0 μ h next w) {b : Nat} {L : Loc} {ob ob' : AO} {o : Obj} (hL : μ b = some L) (hg : h.get b = some ob) (hro : ob.ro = false) (hob : ObRel μ L (Ax.putO w L.c o) ob') :
    Inv C B w0 μ (h.put b ob') next (Ax.putO w L.c o) :=
  I.turn hL hg hro (putO_below (I.own b L _ hL hg hro)) (by simp [Ax.putO]) (fun k hk _ => putO_other hk) hob
theorem run_setObj {r : Nat} {o o' : Obj} (hr : w.heap[r]? = some o') (hc : ∀ c t f, o' ≠ .cells c t f) : (setObj r o).run C.P w = .ok () (putO w r o) := by
  simp only [setObj, Sem.run, hr]
  cases o' with
  | cells c t f => exact absurd rfl (hc c t f)
  | _ => rfl
theorem run_getObj {r : Nat} {o' : Obj} (hr : w.heap[r]? = some o') (hc : ∀ c t f, o' ≠ .cells c t f) : (getObj r).run C.P w = .ok o' w := by
  simp only [getObj, Sem.run, hr]

theorem setAt_length (f : Value × AV × Nat → Value × AV × Nat) : ∀ (l : List (Value × AV × Nat)) (i : Nat), (setAt f l i).length = l.length
  | [], _ => rfl
  | x :: l, 0 => rfl
  | x :: l, i + 1 => by simp [setAt, setAt_length f l i]
theorem setAt_get (f : Value × AV × Nat → Value × AV × Nat) : ∀ (l : List (Value × AV × Nat)) (i j : Nat), (setAt f l i)[j]? = if j = i then (l[j]?).map f else l[j]?
  | [], i, j => by simp [setAt]
  | x :: l, 0, j => by cases j <;> simp [setAt]
  | x :: l, i + 1, j => by
    cases j with
    | zero => simp [setAt]
    | succ j => simp [setAt, setAt_get f l i j]
theorem EsRel.modify {es : List (Value × AV × Nat)} {es' : Array MapEntry} (hr : EsRel μ es es'.toList) {i : Nat} {f : Value × AV × Nat → Value × AV × Nat} {f' : MapEntry → MapEntry}
    (hf : ∀ x e, es[i]? = some x → es'[i]? = some e → (f' e).key = (f x).1 ∧ VRel μ (f x).2.1 (f' e).val ∧ (f' e).born = (f x).2.2) : EsRel μ (setAt f es i) (es'.modify i f').toList := by
  refine ⟨by rw [setAt_length]; simpa using hr.1, fun j x en hx he => ?_⟩
  rw [setAt_get] at hx
  rw [Array.getElem?_toList, Array.getElem?_modify] at he
  by_cases hj : j = i
  · subst hj
    simp at hx he
    obtain ⟨p, q, y, h1, rfl⟩ : ∃ p q y, es[j]? = some (p, q, y) ∧ f (p, q, y) = x := by simpa using hx
    obtain ⟨en', h2, rfl⟩ := he
    exact hf _ _ h1 h2
  · rw [if_neg hj] at hx
    rw [if_neg (fun h => hj h.symm)] at he
    exact hr.2 j x en hx (by simpa using he)
theorem EsRel.push {es : List (Value × AV × Nat)} {es' : Array MapEntry} (hr : EsRel μ es es'.toList) {k : Value} {a : AV} {v : Value} {n : Nat} (ha : VRel μ a v) :
    EsRel μ (es ++ [(k, a, n)]) (es'.push { key := k, val := v, born := n }).toList := by
  refine ⟨by simp [hr.1], fun j x en hx he => ?_⟩
  rw [List.getElem?_append] at hx
  simp only [Array.toList_push, List.getElem?_append] at he
  have hl := hr.1
  by_cases hj : j < es.length
  · rw [if_pos hj] at hx; rw [if_pos (by omega)] at he; exact hr.2 j x en hx he
  · rw [if_neg hj] at hx; rw [if_neg (by omega)] at he
    have h1 : j - es.length = 0 := by
      have := (List.getElem?_eq_some_iff.1 hx).1; simp at this; omega
    rw [h1] at hx; rw [← hl, h1] at he
    simp at hx he
    subst hx; subst he
    exact ⟨rfl, ha, rfl⟩

theorem keyAt_ok {kt : TypeId} {es : List (Value × AV × Nat)} {es' : Array MapEntry} {k : Value} {r : Option (Nat × Value × AV × Nat)} (hk : keyAt C kt es k = some r) (hr : EsRel μ es es'.toList) (w : World) :
    (Instr.checkKey false 10000 kt k).run C.P w = .ok () w ∧
    ((r = none ∧ (Instr.findKey kt k es'.toList).run C.P w = .ok none w) ∨
     ∃ i k' a n en, r = some (i, k', a, n) ∧ es[i]? = some (en.key, a, n) ∧ es'[i]? = some en ∧ VRel μ a en.val ∧ en.born = n ∧
       (Instr.findKey kt k es'.toList).run C.P w = .ok (some (i, en.val)) w ∧ (Instr.keyThatStays en.key k).run C.P w = .ok k' w) := by
  unfold keyAt at hk
  split at hk
  · rename_i u hck
    refine ⟨sev_run C.P _ _ hck w, ?_⟩
    split at hk
    · rename_i i hf
      rcases findK_ok hr hf w with ⟨h1, _⟩ | ⟨i2, en, h1, h2, h3⟩
      · cases h1
      · cases h1
        split at hk
        · rename_i x hx
          obtain ⟨q1, q2, q3⟩ := hr.2 _ _ _ hx h2
          split at hk
          · rename_i k' hst
            cases hk
            refine .inr ⟨i, k', x.2.1, x.2.2, en, rfl, ?_, by simpa using h2, q2, q3, h3, ?_⟩
            · rw [q1]; exact hx
            · rw [q1]; exact sev_run C.P _ _ hst w
          · cases hk
        · cases hk
    · rename_i hf
      cases hk
      rcases findK_ok hr hf w with ⟨_, h3⟩ | ⟨_, _, h1, _⟩
      · exact .inl ⟨rfl, h3⟩
      · cases h1
    · cases hk
  · cases hk

theorem wUpdate_ok {t : TypeId} {m k x : Operand} {v : AV} {h' : H} {next' : Nat} (hv : wUpdate C h next t (ρ m) (ρ k) (ρ x) = some (v, h', next')) (r : ER μ ρ e [m, k, x]) (I : Inv C B w0 μ h next w) :
    ∃ w', (Instr.mapUpdate t (e m) (e k) (e x)).run C.P w = .ok () w' ∧ Ext next μ h μ h' ∧ v = .tup [] ∧ Inv C B w0 μ h' next' w' ∧ next ≤ next' := by
  unfold wUpdate at hv
  split at hv
  · rename_i kt et b ka u hu hm hk hx
    obtain ⟨L, hL, em⟩ := (r m (by simp) _ hm).map_inv
    have hxr := r x (by simp) _ hx
    split at hv
    · rename_i es clock kv hg hl
      have ek := litOf_rel hl (r k (by simp) _ hk)
      obtain ⟨es', ho, hes⟩ := I.obj b L _ hL hg
      have hg' := run_getObj (C := C) ho (by simp)
      have hlt := (Array.getElem?_eq_some_iff.1 ho).1
      split at hv
      · rename_i i k' an hka
        cases hv
        obtain ⟨c1, c2⟩ := keyAt_ok hka hes w
        rcases c2 with ⟨c2, _⟩ | ⟨i2, k2, a2, n2, en, d1, d2, d3, d4, d5, d6, d7⟩
        · cases c2
        · cases d1
          have hs := run_setObj (C := C) (o := .map (es'.modify i fun e' => { e' with key := k', val := e x }) clock) ho (by simp)
          refine ⟨_, ?_, Ext.put hL, rfl, I.putO hL hg rfl ⟨es'.modify i fun e' => { e' with key := k', val := e x }, putO_same hlt, EsRel.modify hes ?_⟩, Nat.le_refl _⟩
          · simp only [em, ek, Instr.mapUpdate, Sem.run_bind, run_und hu, Result.andThen_ok, hg', c1, d6, d3, Option.map_some, Option.getD_some, d7, hs]
          · intro y en' hy he'
            rw [d2] at hy; rw [d3] at he'; cases hy; cases he'
            exact ⟨rfl, hxr, d5⟩
      · rename_i hka
        cases hv
        obtain ⟨c1, c2⟩ := keyAt_ok hka hes w
        rcases c2 with ⟨_, c3⟩ | ⟨_, _, _, _, _, d1, _⟩
        · have hs := run_setObj (C := C) (o := .map (es'.push { key := kv, val := e x, born := clock }) (clock + 1)) ho (by simp)
          refine ⟨_, ?_, Ext.put hL, rfl, I.putO hL hg rfl ⟨es'.push { key := kv, val := e x, born := clock }, putO_same hlt, EsRel.push hes hxr⟩, Nat.le_refl _⟩
          simp only [em, ek, Instr.mapUpdate, Sem.run_bind, run_und hu, Result.andThen_ok, hg', c1, c3, hs]
        · cases d1
      · cases hv
    · cases hv
  · cases hv
end
end Go.Ax
set_option linter.unusedVariables false
set_option linter.unusedSimpArgs false
namespace Go.Ax
open Go Go.RowKit
section
variable {C : Cfg} {B : Bd} {w0 w : World} {μ : Mu} {h : H} {next : Nat} {ρ : Env} {e : Operand → Value}

theorem wEntry_ok {t : TypeId} {m k : Operand} {ty : TypeId} {d : Option Tmp} {pos : String} {af : Array Edge} {g} {v : AV} {h' : H} {next' : Nat} (hv : wEntry C h next t (ρ m) (ρ k) = some (v, h', next')) (r : ER μ ρ e [m, k]) (I : Inv C B w0 μ h next w) :
    WOk C B w0 μ h next w e ⟨d, .mapEntry t m k, ty, pos, af, g⟩ v h' next' := by
  unfold wEntry at hv
  split at hv
  · rename_i kt et b ka hu hm hk
    obtain ⟨L, hL, em⟩ := (r m (by simp) _ hm).map_inv
    split at hv
    · rename_i es clock kv hg hl
      have ek := litOf_rel hl (r k (by simp) _ hk)
      obtain ⟨es', ho, hes⟩ := I.obj b L _ hL hg
      have hg' := run_getObj (C := C) ho (by simp)
      have hlt := (Array.getElem?_eq_some_iff.1 ho).1
      split at hv
      · rename_i i k' a n hka
        cases hv
        obtain ⟨c1, c2⟩ := keyAt_ok hka hes w
        rcases c2 with ⟨c2, _⟩ | ⟨i2, k2, a2, n2, en, d1, d2, d3, d4, d5, d6, d7⟩
        · cases c2
        · cases d1
          have hs := run_setObj (C := C) (o := .map (es'.modify i fun e' => { e' with key := k' }) clock) ho (by simp)
          refine ⟨.tuple #[en.val, .int .i64 (n : Int)], _, _, μ, ?_, .inl rfl, Ext.put hL, .tup (.cons d4 (.cons (.lit _) .nil)), I.putO hL hg rfl ⟨es'.modify i fun e' => { e' with key := k' }, putO_same hlt, EsRel.modify hes ?_⟩, Nat.le_refl _⟩
          · simp only [execOp, em, ek, Instr.mapEntry, Sem.run_bind, run_und hu, Result.andThen_ok, hg', c1, d6, d3, Option.map_some, Option.getD_some, d7, hs, d5, Sem.run_pure, goInt]
          · intro y en' hy he'
            rw [d2] at hy; rw [d3] at he'; cases hy; cases he'
            exact ⟨rfl, d4, d5⟩
      · rename_i hka
        obtain ⟨c1, c2⟩ := keyAt_ok hka hes w
        split at hv
        · rename_i z hz
          cases hv
          obtain ⟨zv, hzr, rfl⟩ := run_zeroT hz w
          rcases c2 with ⟨_, c3⟩ | ⟨_, _, _, _, _, d1, _⟩
          · have hs := run_setObj (C := C) (o := .map (es'.push { key := kv, val := zv, born := clock }) (clock + 1)) ho (by simp)
            refine ⟨.tuple #[zv, .int .i64 (clock : Int)], _, _, μ, ?_, .inl rfl, Ext.put hL, .tup (.cons (VRel.ofV _) (.cons (.lit _) .nil)), I.putO hL hg rfl ⟨es'.push { key := kv, val := zv, born := clock }, putO_same hlt, EsRel.push hes (VRel.ofV _)⟩, Nat.le_refl _⟩
            simp only [execOp, em, ek, Instr.mapEntry, Sem.run_bind, run_und hu, Result.andThen_ok, hg', c1, c3, hzr, hs, Sem.run_pure, goInt]
          · cases d1
        · cases hv
      · cases hv
    · cases hv
  · cases hv

theorem wEntryStore_ok {t : TypeId} {m s x : Operand} {ty : TypeId} {d : Option Tmp} {pos : String} {af : Array Edge} {g} {v : AV} {h' : H} {next' : Nat} (hv : wEntryStore h next (ρ m) (ρ s) (ρ x) = some (v, h', next')) (r : ER μ ρ e [m, s, x]) (I : Inv C B w0 μ h next w) :
    WOk C B w0 μ h next w e ⟨d, .entryStore t m s x, ty, pos, af, g⟩ v h' next' := by
  unfold wEntryStore at hv
  split at hv
  · rename_i b k born u hm hs hx
    obtain ⟨L, hL, em⟩ := (r m (by simp) _ hm).map_inv
    have es0 := (r s (by simp) _ hs).lit_inv
    have hxr := r x (by simp) _ hx
    split at hv
    · rename_i es clock hg
      obtain ⟨es', ho, hes⟩ := I.obj b L _ hL hg
      have hg' := run_getObj (C := C) ho (by simp)
      have hlt := (Array.getElem?_eq_some_iff.1 ho).1
      split at hv
      · rename_i i hi
        cases hv
        have hi' : es'.findIdx? (fun e => (e.born : Int) == born) = some i := by
          have ht : es' = es'.toList.toArray := by simp
          rw [ht, List.findIdx?_toArray]
          rw [List.findIdx?_eq_some_iff_getElem] at hi ⊢
          obtain ⟨h1, h2, h3⟩ := hi
          have hl := hes.1
          refine ⟨by omega, ?_, fun j hj => ?_⟩
          · have := hes.2 i _ _ (List.getElem?_eq_getElem h1) (List.getElem?_eq_getElem (by omega))
            rw [this.2.2]; exact h2
          · have := hes.2 j _ _ (List.getElem?_eq_getElem (by omega)) (List.getElem?_eq_getElem (by omega))
            rw [this.2.2]; exact h3 j hj
        have hst := run_setObj (C := C) (o := .map (es'.modify i fun e' => { e' with val := e x }) clock) ho (by simp)
        refine ⟨undef, _, .skip, μ, ?_, .inr ⟨rfl, rfl⟩, Ext.put hL, .tup .nil, I.putO hL hg rfl ⟨es'.modify i fun e' => { e' with val := e x }, putO_same hlt, EsRel.modify hes ?_⟩, Nat.le_refl _⟩
        · simp only [execOp, em, es0, Instr.entryStore, Sem.run_bind, Result.andThen_ok, hg', asInt, asIntOf, Sem.run_pure, hi', hst]
        · intro y en' hy he'
          obtain ⟨q1, q2, q3⟩ := hes.2 i y en' hy (by simpa using he')
          exact ⟨q1, hxr, q3⟩
      · cases hv
    · cases hv
  · cases hv

theorem wNext_ok {it : Operand} {ty : TypeId} {d : Option Tmp} {pos : String} {af : Array Edge} {g} {v : AV} {h' : H} {next' : Nat} (hv : wNext h next (ρ it) = some (v, h', next')) (r : ER μ ρ e [it]) (I : Inv C B w0 μ h next w) :
    WOk C B w0 μ h next w e ⟨d, .next it true, ty, pos, af, g⟩ v h' next' := by
  unfold wNext at hv
  split at hv
  · rename_i b hit
    obtain ⟨L, hL, ei⟩ := (r it (by simp) _ hit).ptr_inv
    split at hv
    · rename_i s p hg
      have ho : w.heap[L.c]? = some (.stringIter s p) := I.obj b L _ hL hg
      have hg' := run_getObj (C := C) ho (by simp)
      have hlt := (Array.getElem?_eq_some_iff.1 ho).1
      split at hv
      · rename_i hp
        cases hv
        have hst := run_setObj (C := C) (o := .stringIter s (p + (Utf8.decode s p).2)) ho (by simp)
        refine ⟨.tuple #[.bool true, .int .i64 (p : Int), .int .i32 (Utf8.decode s p).1], _, _, μ, ?_, .inl rfl, Ext.put hL, .tup (.cons (.lit _) (.cons (.lit _) (.cons (.lit _) .nil))), I.putO hL hg rfl (putO_same hlt), Nat.le_refl _⟩
        simp only [execOp, ei, Instr.next, Sem.run_bind, Result.andThen_ok, hg', hp, if_true, hst, Sem.run_pure, goInt]
      · rename_i hp
        cases hv
        refine ⟨.tuple #[.bool false], w, _, μ, ?_, .inl rfl, Ext.refl _ _ _, .tup (.cons (.lit _) .nil), I, Nat.le_refl _⟩
        simp only [execOp, ei, Instr.next, Sem.run_bind, Result.andThen_ok, hg', hp, if_false, Sem.run_pure]
    · cases hv
  · cases hv

/-! cells read ahead -/
theorem firstSl_ok {size n b off : Nat} {l : List AV} (hl : firstSl h size n b off = some l) (I : Inv C B w0 μ h next w) {L : Loc} (hL : μ b = some L) :
    ∃ vs : List Value, VRels μ l vs ∧ vs.length = n * size ∧ ∀ (j : Nat) (v : Value), vs[j]? = some v → w.cell? ⟨L.c, off + j, none⟩ = some v := by
  unfold firstSl at hl
  split at hl
  · rename_i c cn el ro hg
    split at hl
    · rename_i hle
      exact rdCells_ok (I.obj b L _ hL hg).1 _ _ _ hl (Nat.le_of_ble_eq_true hle)
    · cases hl
  · cases hl
theorem firstC_ok {size n : Nat} {x : AV} {l : List AV} (hl : firstC h size n x = some l) (I : Inv C B w0 μ h next w) {x' : Value} (hx : VRel μ x x') :
    ∃ vs : List Value, VRels μ l vs ∧ vs.length = n * size ∧ (∀ d, (Builtin.firstCells size n x').run C.P (w.drewN d) = .ok vs.toArray (w.drewN d)) ∧ ∀ v ∈ vs, v.oneCell' = true := by
  suffices hh : ∃ vs : List Value, VRels μ l vs ∧ vs.length = n * size ∧ (∀ d, (Builtin.firstCells size n x').run C.P (w.drewN d) = .ok vs.toArray (w.drewN d)) by
    obtain ⟨vs, k1, k2, k3⟩ := hh
    refine ⟨vs, k1, k2, k3, allCell_mem ?_ k1⟩
    unfold firstC lenIs at hl
    split at hl
    · split at hl
      · split at hl
        · rename_i ha; cases hl; exact ha
        · cases hl
      · cases hl
    · cases hl
  unfold firstC at hl
  obtain ⟨hl0, hlen⟩ : firstC0 h size n x = some l ∧ l.length = n * size := by
    unfold lenIs at hl
    split at hl
    · rename_i l' h0
      split at hl
      · rename_i hb
        split at hl
        · cases hl; exact ⟨h0, by simpa using hb⟩
        · cases hl
      · cases hl
    · cases hl
  clear hl
  unfold firstC0 at hl0
  split at hl0
  · rename_i b off len cap esz ex
    obtain ⟨L, cap', hL, _, _, _, _, rfl⟩ := hx.sl_inv
    obtain ⟨vs, q1, q2, q3⟩ := firstSl_ok hl0 I hL
    refine ⟨vs, q1, q2, fun d => ?_⟩
    have := run_loadCells_list (P := C.P) (w.drewN d) ⟨L.c, off, none⟩ vs (fun j v hv => by rw [add_mk]; exact q3 j v hv)
    simp [Builtin.firstCells, ← q2, this]
  · obtain ⟨a, c, rfl⟩ := hx.sl0_inv
    cases hl0
    have hz : n * size = 0 := hlen.symm
    exact ⟨[], .nil, hz.symm, fun d => by simp [Builtin.firstCells, hz, loadCells, loadCellsFrom]⟩
  · cases hl0
    have := hx.lit_inv; subst this
    exact ⟨[], .nil, hlen, fun d => by simp [Builtin.firstCells]⟩
  · rename_i s
    cases hl0
    have := hx.lit_inv; subst this
    have hr : VRels μ ((s.extract 0 n).data.toList.map fun b => AV.lit (.int .u8 b.toNat)) ((s.extract 0 n).data.toList.map fun b => Value.int .u8 b.toNat) := by
      have := VRels.lits (μ := μ) ((s.extract 0 n).data.toList.map fun b => Value.int .u8 b.toNat)
      rw [List.map_map] at this; exact this
    refine ⟨_, hr, by rw [← hr.length]; exact hlen, fun d => ?_⟩
    simp [Builtin.firstCells]
    apply Array.ext'; simp
  · cases hl0
end
end Go.Ax
