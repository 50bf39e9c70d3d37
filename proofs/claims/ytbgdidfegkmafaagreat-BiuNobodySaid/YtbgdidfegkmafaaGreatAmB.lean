/- the machine's operations, control and functions are the model's -/
import Derived.Test.YtbgdidfegkmafaaGreatAmA
import Derived.MapKept
import Derived.Orders
import Derived.Scope
namespace Go.AM
open Go
variable {P : Program}

theorem nilChk_snd {M : Inj} {x r : V} {x' : Value} (he : nilChk x = some r) (hx : VU P M x x') (w : World) (ρ : Operand → Value) (o : Operand) (hρ : ρ o = x') (ty : TypeId) (pos : String) (af : Array Edge) (g : Option (Nat × Bool)) (d : Option Tmp) :
    ∃ v', (execOp ρ ⟨d, .nilCheck o, ty, pos, af, g⟩).run P w = .ok (.value v') w ∧ VR P M r v' := by
  unfold nilChk at he
  split at he <;> try contradiction
  · injection he with he; subst he
    have hx := hx.known (by simp)
    have hx2 := hx
    simp only [VR, R] at hx
    obtain ⟨_, _, _, _, _, _, _, _, _, _, _, _, e⟩ := hx
    injection e with e
    refine ⟨x', ?_, hx2⟩
    simp only [execOp, hρ, e]; rfl
  · injection he with he; subst he
    have hx := hx.known (by simp)
    have hx2 := hx
    simp only [VR, R] at hx
    obtain ⟨_, _, e, _⟩ := hx
    injection e with e
    refine ⟨x', ?_, hx2⟩
    simp only [execOp, hρ, e]; rfl

/-- lists of operands -/
def UVs (P : Program) (M : Inj) : List V → List Value → Prop
  | [], c => c = []
  | v :: vs, c => ∃ v' c', c = v' :: c' ∧ VU P M v v' ∧ UVs P M vs c'
theorem UVs.map {M : Inj} {fr : Fr} {a : Act} (F : Fit P M fr a) : ∀ l : List Operand, UVs P M (l.map (evO fr)) (l.map a.eval)
  | [] => rfl
  | x :: l => ⟨a.eval x, _, rfl, evO_VU F x, UVs.map F l⟩
theorem UVs.known {M : Inj} : ∀ {vs : List V} {vs' : List Value}, UVs P M vs vs' → AM.known vs = true → RVs P M vs vs'
  | [], _, h, _ => h
  | v :: vs, _, ⟨v', c', e, h1, h2⟩, hk => by
    simp only [AM.known, List.all_cons, Bool.and_eq_true] at hk
    refine ⟨v', c', e, h1.known ?_, UVs.known h2 hk.2⟩
    rintro rfl; simp at hk

theorem lenV_snd {M : Inj} {h : H} {w : World} (S : St P M h w) {t ty : TypeId} {x r : V} {x' : Value} (he : lenV (lnK P t) h x = some r) (hx : VU P M x x') {ats : Array TypeId} (h0 : ats[0]? = some t) :
    ∃ v', (Builtin.len_ ats ty #[x']).run P w = .ok v' w ∧ VR P M r v' := by
  unfold lenV at he
  split at he <;> try contradiction
  · rename_i n hk
    injection he with he; subst he
    have hd : ∃ e, desc P t = some (.array n e) := by
      unfold lnK at hk; split at hk <;> cases hk; exact ⟨_, by assumption⟩
    obtain ⟨e, hd⟩ := hd
    refine ⟨_, ?_, VR_int.2 rfl⟩
    simp [Builtin.len_, h0, run_underlying (desc_und hd), goInt]
  · rename_i s hk
    injection he with he; subst he
    have hd : desc P t = some .string := by
      unfold lnK at hk; split at hk <;> cases hk; assumption
    have := hx.str; subst this
    refine ⟨_, ?_, VR_int.2 rfl⟩
    simp [Builtin.len_, h0, run_underlying (desc_und hd), goInt, size_mk]
  · rename_i hk
    injection he with he; subst he
    have hd : ∃ e, desc P t = some (.slice e) := by
      unfold lnK at hk; split at hk <;> cases hk; exact ⟨_, by assumption⟩
    obtain ⟨e, hd⟩ := hd
    have := hx.known (by simp); rw [VR_nils] at this; subst this
    refine ⟨_, ?_, VR_int.2 rfl⟩
    simp [Builtin.len_, h0, run_underlying (desc_und hd), goInt]
  · rename_i hk
    injection he with he; subst he
    have hd : ∃ e, desc P t = some (.slice e) := by
      unfold lnK at hk; split at hk <;> cases hk; exact ⟨_, by assumption⟩
    obtain ⟨e, hd⟩ := hd
    have := hx.known (by simp)
    simp only [VR, R] at this
    obtain ⟨_, e⟩ := this
    injection e with e; subst e
    refine ⟨_, ?_, VR_int.2 rfl⟩
    simp [Builtin.len_, h0, run_underlying (desc_und hd), goInt]
  · rename_i n _ hk
    injection he with he; subst he
    have hd : ∃ e, desc P t = some (.slice e) := by
      unfold lnK at hk; split at hk <;> cases hk; exact ⟨_, by assumption⟩
    obtain ⟨e, hd⟩ := hd
    have := hx.known (by simp)
    simp only [VR, R] at this
    obtain ⟨_, _, _, _, _, _, _, _, _, _, _, _, _, _, _, _, e⟩ := this
    injection e with e; subst e
    refine ⟨_, ?_, VR_int.2 rfl⟩
    simp [Builtin.len_, h0, run_underlying (desc_und hd), goInt]
  · rename_i hk
    injection he with he; subst he
    have hd : ∃ k e, desc P t = some (.map k e) := by
      unfold lnK at hk; split at hk <;> cases hk; exact ⟨_, _, by assumption⟩
    obtain ⟨k, e, hd⟩ := hd
    have := hx.known (by simp); rw [VR_nilm] at this; subst this
    refine ⟨_, ?_, VR_int.2 rfl⟩
    simp [Builtin.len_, h0, run_underlying (desc_und hd), goInt]
  · rename_i b hk
    have hd : ∃ k e, desc P t = some (.map k e) := by
      unfold lnK at hk; split at hk <;> cases hk; exact ⟨_, _, by assumption⟩
    obtain ⟨k, e, hd⟩ := hd
    cases hg : h.get b with
    | none => rw [hg] at he; simp at he
    | some blk =>
      rw [hg] at he
      cases blk with
      | row ro es => simp at he
      | mp es =>
        simp only [Option.some.injEq] at he; subst he
        have := hx.known (by simp)
        simp only [VR, R] at this
        obtain ⟨cb, hM, e2⟩ := this
        injection e2 with e2; subst e2
        obtain ⟨c, entries, clock, g1, g2, g3⟩ := S.blk _ _ hg
        rw [hM] at g1; injection g1 with g1; injection g1 with g1; subst g1
        have hl : ∀ (es : List (V × V)) (l : List MapEntry), MpR P M es l → es.length = l.length := by
          intro es
          induction es with
          | nil => intro l h; simp only [MpR] at h; subst h; rfl
          | cons kv r ih =>
            intro l h
            obtain ⟨k, v⟩ := kv
            simp only [MpR] at h
            obtain ⟨e, es', rfl, _, _, h4⟩ := h
            simp [ih _ h4]
        refine ⟨_, ?_, VR_int.2 rfl⟩
        have := hl _ _ g3
        simp only [Builtin.len_, h0, List.getElem?_toArray, List.getElem?_cons_zero, Sem.run_bind, run_underlying (desc_und hd), Result.andThen_ok, getObj, Sem.run, g2, goInt, this]
        simp

theorem capV_snd {M : Inj} {w : World} {t ty : TypeId} {x r : V} {x' : Value} (he : capV (lnK P t) x = some r) (hx : VU P M x x') {ats : Array TypeId} (h0 : ats[0]? = some t) :
    ∃ v', (Builtin.cap_ ats ty #[x']).run P w = .ok v' w ∧ VR P M r v' := by
  unfold capV at he
  split at he <;> try contradiction
  · rename_i hk
    injection he with he; subst he
    have hd : ∃ e, desc P t = some (.slice e) := by
      unfold lnK at hk; split at hk <;> cases hk; exact ⟨_, by assumption⟩
    obtain ⟨e, hd⟩ := hd
    have := hx.known (by simp); rw [VR_nils] at this; subst this
    refine ⟨_, ?_, VR_int.2 rfl⟩
    simp [Builtin.cap_, h0, run_underlying (desc_und hd), goInt]
  · rename_i hk
    injection he with he; subst he
    have hd : ∃ e, desc P t = some (.slice e) := by
      unfold lnK at hk; split at hk <;> cases hk; exact ⟨_, by assumption⟩
    obtain ⟨e, hd⟩ := hd
    have := hx.known (by simp)
    simp only [VR, R] at this
    obtain ⟨_, e⟩ := this
    injection e with e; subst e
    refine ⟨_, ?_, VR_int.2 rfl⟩
    simp [Builtin.cap_, h0, run_underlying (desc_und hd), goInt]
  · rename_i n hk
    injection he with he; subst he
    have hd : ∃ e, desc P t = some (.slice e) := by
      unfold lnK at hk; split at hk <;> cases hk; exact ⟨_, by assumption⟩
    obtain ⟨e, hd⟩ := hd
    have := hx.known (by simp)
    simp only [VR, R] at this
    obtain ⟨_, _, _, _, _, _, _, _, cap, _, _, _, _, _, _, hc, e⟩ := this
    injection e with e; subst e
    refine ⟨_, ?_, VR_int.2 rfl⟩
    have := hc trivial
    simp [Builtin.cap_, h0, run_underlying (desc_und hd), goInt, this]

theorem fold_snd {M : Inj} {f : V → V → Option V} {g : Value → Value → Sem Value} (hfg : ∀ x y r x' y', f x y = some r → VU P M x x' → VU P M y y' → ∀ w, ∃ v', (g x' y').run P w = .ok v' w ∧ VU P M r v') :
    ∀ (l : List V) (l' : List Value) (x r : V) (x' : Value), foldO f x l = some r → VU P M x x' → UVs P M l l' → ∀ w, ∃ v', (l'.foldlM g x').run P w = .ok v' w ∧ VU P M r v'
  | [], l', x, r, x', h, hx, hl, w => by
    simp only [foldO, Option.some.injEq] at h; subst h
    simp only [UVs] at hl; subst hl
    exact ⟨x', rfl, hx⟩
  | y :: l, l', x, r, x', h, hx, hl, w => by
    obtain ⟨y', c', rfl, hy, hl⟩ := hl
    simp only [foldO] at h
    cases hf : f x y with
    | none => rw [hf] at h; simp at h
    | some z =>
      rw [hf] at h
      obtain ⟨z', k1, k2⟩ := hfg x y z x' y' hf hx hy w
      obtain ⟨v', g1, g2⟩ := fold_snd hfg l c' z r z' h k2 hl w
      refine ⟨v', ?_, g2⟩
      simp only [List.foldlM_cons, Sem.run_bind, k1, Result.andThen_ok, g1]

theorem mx_snd {M : Inj} {l : List V} {l' : Array Value} {r : V} (h : mxs l = some r) (hl : UVs P M l l'.toList) (ats : Array TypeId) (ty : TypeId) (w : World) : ∃ v', (Builtin.max_ ats ty l').run P w = .ok v' w ∧ VU P M r v' := by
  unfold mxs at h
  cases l with
  | nil => simp at h
  | cons x l =>
    obtain ⟨x', c', e, hx, hl⟩ := hl
    simp only [Builtin.max_, e]
    refine fold_snd ?_ l c' x r x' h hx hl w
    intro x y r x' y' h hx hy w
    unfold mx2 at h
    split at h <;> try contradiction
    have e1 := hx.int; have e2 := hy.int; subst e1 e2
    injection h with h; subst h
    exact ⟨_, rfl, .inr (by simp)⟩
theorem mn_snd {M : Inj} {l : List V} {l' : Array Value} {r : V} (h : mns l = some r) (hl : UVs P M l l'.toList) (ats : Array TypeId) (ty : TypeId) (w : World) : ∃ v', (Builtin.min_ ats ty l').run P w = .ok v' w ∧ VU P M r v' := by
  unfold mns at h
  cases l with
  | nil => simp at h
  | cons x l =>
    obtain ⟨x', c', e, hx, hl⟩ := hl
    simp only [Builtin.min_, e]
    refine fold_snd ?_ l c' x r x' h hx hl w
    intro x y r x' y' h hx hy w
    unfold mn2 at h
    split at h <;> try contradiction
    have e1 := hx.int; have e2 := hy.int; subst e1 e2
    injection h with h; subst h
    exact ⟨_, rfl, .inr (by simp)⟩

/-- slicing -/
theorem bound_snd {M : Inj} {v : Option V} {v' : Option Value} {d k : Nat} (h : bound v d = some k) (hv : match v, v' with | some a, some b => VU P M a b | none, none => True | _, _ => False) :
    match v' with | some b => ∃ kd n, b = .int kd n ∧ 0 ≤ n ∧ n.toNat = k | none => k = d := by
  unfold bound at h
  split at h
  · injection h with h
    cases v' with
    | none => exact h.symm
    | some b => exact hv.elim
  · rename_i kd n
    replace h := cond_none h
    obtain ⟨h1, h⟩ := h
    injection h with h
    cases v' with
    | none => exact hv.elim
    | some b =>
      have := (show VU P M (.int kd n) b from hv).int
      exact ⟨kd, n, this, by simpa using h1, h⟩
  · cases h
end Go.AM

namespace Go.AM
open Go
variable {P : Program}

def OV (P : Program) (M : Inj) : Option V → Option Value → Prop
  | some a, some b => VU P M a b
  | none, none => True
  | _, _ => False

theorem bd_some {M : Inj} {a : V} {b : Value} {d k y : Nat} (h : bound (some a) d = some k) (hv : VU P M a b) (hk : k ≤ y) (code : BoundsCode) (w : World) : (Instr.sliceBound b y code).run P w = .ok k w := by
  obtain ⟨kd, n, rfl, h1, h2⟩ := bound_snd (P := P) (M := M) (v' := some b) h hv
  subst h2
  have hc : 0 ≤ n ∧ n ≤ (y : Int) := by omega
  simp only [Instr.sliceBound, asIntOf, Sem.run_bind, Sem.run_pure, Result.andThen_ok, if_pos hc]

/-- bounds without a third -/
theorem bounds2 {M : Inj} {isS : Bool} {len cap : Nat} {lo hi : Option V} {lo' hi' : Option Value} {l h : Nat} (hh : bound hi len = some h) (hl : bound lo 0 = some l) (vl : OV P M lo lo') (vh : OV P M hi hi')
    (h1 : l ≤ h) (h2 : h ≤ len) (h3 : len ≤ cap) (w : World) : (Instr.sliceBounds isS len cap lo' hi' none).run P w = .ok (l, h, cap) w := by
  cases hi <;> cases hi' <;> simp only [OV] at vh <;> cases lo <;> cases lo' <;> simp only [OV] at vl
  · simp only [bound, Option.some.injEq] at hh hl; subst hh hl
    simp [Instr.sliceBounds]
  · simp only [bound, Option.some.injEq] at hh; subst hh
    simp [Instr.sliceBounds, bd_some hl vl h1]
  · simp only [bound, Option.some.injEq] at hl; subst hl
    simp [Instr.sliceBounds, bd_some hh vh (Nat.le_trans h2 h3)]
  · simp [Instr.sliceBounds, bd_some hl vl h1, bd_some hh vh (Nat.le_trans h2 h3)]

theorem bounds3 {M : Inj} {len cap : Nat} {lo : Option V} {hi mx : V} {lo' : Option Value} {hi' mx' : Value} {l h m : Nat} (hh : bound (some hi) len = some h) (hl : bound lo 0 = some l) (hm : bound (some mx) 0 = some m) (vl : OV P M lo lo') (vh : VU P M hi hi') (vm : VU P M mx mx')
    (h1 : l ≤ h) (h2 : h ≤ m) (h3 : m ≤ cap) (w : World) : (Instr.sliceBounds true len cap lo' (some hi') (some mx')).run P w = .ok (l, h, m) w := by
  cases lo <;> cases lo' <;> simp only [OV] at vl
  · simp only [bound, Option.some.injEq] at hl; subst hl
    simp [Instr.sliceBounds, bd_some hm vm h3, bd_some hh vh h2]
  · simp [Instr.sliceBounds, bd_some hm vm h3, bd_some hh vh h2, bd_some hl vl h1]

theorem nodeT_snoc (L : Lay P) {t : TypeId} {tg te : Option Nat} {n : Nat} (hk : ixK P t = .arr tg n te) {base i : Nat} {e0 : TypeId} {lim : Nat} {q : List Nat} {o : Nat} {t' : TypeId} (ho : offT P e0 q = some (o, t')) (htt : tgo P t' = some tg) :
    ∃ e, nodeT P base e0 lim (i :: q) = some (base + i * P.cellsOf e0 + o, e, n) ∧ tgo P e = some te := by
  obtain ⟨e, hd, hte, _, rfl, ht⟩ := ixK_arr L hk
  have hdd : desc P t' = desc P t := by rw [← (L.tag _ _ htt).1, (L.tag _ _ ht).1]
  exact ⟨e, by simp only [nodeT, ho]; rw [hdd, hd], hte⟩

theorem slcV_snd {M : Inj} (L : Lay P) {t : TypeId} {x r : V} {lo hi mx : Option V} {x' : Value} {lo' hi' mx' : Option Value} (he : slcV (ixK P t) x lo hi mx = some r) (hx : VU P M x x') (vl : OV P M lo lo') (vh : OV P M hi hi') (vm : OV P M mx mx') (w : World) :
    ∃ v', (Instr.sliceAt t x' lo' hi' mx').run P w = .ok v' w ∧ VR P M r v' := by
  unfold slcV at he
  split at he
  · -- strings
    rename_i hk
    have hd := ixK_str hk
    split at he <;> try contradiction
    rename_i s
    have := hx.str; subst this
    split at he <;> try contradiction
    rename_i h l hh hl
    replace he := cond_some he
    obtain ⟨h1, he⟩ := he
    injection he with he; subst he
    simp only [Bool.and_eq_true, ble_eq, decide_eq_true_eq] at h1
    have hm : mx' = none := by cases mx' <;> simp [OV] at vm ⊢
    subst hm
    refine ⟨.string ((⟨s.toArray⟩ : ByteArray).extract l h), ?_, ?_⟩
    · have := bounds2 (isS := false) (cap := s.length) hh hl vl vh h1.1 h1.2 (Nat.le_refl _) w
      simp only [Instr.sliceAt, Sem.run_bind, run_underlying (desc_und hd), Result.andThen_ok, Instr.slice, size_mk, this, Option.isSome_none, Bool.false_eq_true, if_false, Sem.run_pure]
    · rw [VR_str]
      congr 1
      apply ByteArray.ext
      rw [ByteArray.data_extract]
      simp
  · -- slices
    rename_i te hk
    obtain ⟨e, hd, hte, h0⟩ := ixK_slc hk
    split at he <;> try contradiction
    · have := hx.known (by simp); rw [VR_nils] at this; subst this
      split at he <;> try contradiction
      rename_i h l m hh hl hm
      replace he := cond_some he
      obtain ⟨h1, he⟩ := he
      injection he with he; subst he
      simp only [Bool.and_eq_true, beq_eq, decide_eq_true_eq] at h1
      obtain ⟨⟨⟨rfl, rfl⟩, rfl⟩, h4⟩ := h1
      refine ⟨.slice none 0 0, ?_, VR_nils.2 rfl⟩
      cases mx with
      | none =>
        cases mx' <;> simp only [OV] at vm
        have := bounds2 (isS := true) (cap := 0) hh hl vl vh (Nat.le_refl _) (Nat.le_refl _) (Nat.le_refl _) w
        simp only [Instr.sliceAt, Sem.run_bind, run_underlying (desc_und hd), Result.andThen_ok, Instr.slice, this, run_size hte, Sem.run_pure]
        rfl
      | some mv =>
        cases mx' <;> simp only [OV] at vm
        cases hi with
        | none => simp at h4
        | some hv =>
          cases hi' <;> simp only [OV] at vh
          have := bounds3 (cap := 0) (len := 0) hh hl hm vl vh vm (Nat.le_refl _) (Nat.le_refl _) (Nat.le_refl _) w
          simp only [Instr.sliceAt, Sem.run_bind, run_underlying (desc_und hd), Result.andThen_ok, Instr.slice, this, run_size hte, Sem.run_pure]
          rfl
    · have := hx.known (by simp)
      simp only [VR, R] at this
      obtain ⟨a0, e0⟩ := this
      injection e0 with e0; subst e0
      split at he <;> try contradiction
      rename_i h l m hh hl hm
      replace he := cond_some he
      obtain ⟨h1, he⟩ := he
      injection he with he; subst he
      simp only [Bool.and_eq_true, beq_eq, decide_eq_true_eq] at h1
      obtain ⟨⟨⟨⟨_, rfl⟩, rfl⟩, rfl⟩, h4⟩ := h1
      refine ⟨.slice (some a0) 0 0, ?_, by simp only [VR, R]; exact ⟨a0, rfl⟩⟩
      cases mx with
      | none =>
        cases mx' <;> simp only [OV] at vm
        have := bounds2 (isS := true) (cap := 0) hh hl vl vh (Nat.le_refl _) (Nat.le_refl _) (Nat.le_refl _) w
        simp only [Instr.sliceAt, Sem.run_bind, run_underlying (desc_und hd), Result.andThen_ok, Instr.slice, this, run_size hte, Sem.run_pure]
        rfl
      | some mv =>
        cases mx' <;> simp only [OV] at vm
        cases hi with
        | none => simp at h4
        | some hv =>
          cases hi' <;> simp only [OV] at vh
          have := bounds3 (cap := 0) (len := 0) hh hl hm vl vh vm (Nat.le_refl _) (Nat.le_refl _) (Nat.le_refl _) w
          simp only [Instr.sliceAt, Sem.run_bind, run_underlying (desc_und hd), Result.andThen_ok, Instr.slice, this, run_size hte, Sem.run_pure]
          rfl
    · rename_i tg b p s n ex
      have hx := hx.known (by simp)
      simp only [VR, R] at hx
      obtain ⟨cb, base, e0, lim, bo, e', lim', ad, cap, hM, hnode, hte', hncap, hscap, had, hex, hpe⟩ := hx
      injection hpe with hpe; subst hpe
      split at he <;> try contradiction
      rename_i h l hh hl
      split at he
      · have hm : mx' = none := by cases mx' <;> simp [OV] at vm ⊢
        subst hm
        replace he := cond_some he
        obtain ⟨h1, he⟩ := he
        injection he with he; subst he
        simp only [Bool.and_eq_true, ble_eq, decide_eq_true_eq] at h1
        obtain ⟨⟨h1, h2⟩, h3⟩ := h1
        have := tgEq_eq h1; subst this
        have hsz := L.size_eq hte hte'
        have hb := bounds2 (isS := true) (cap := cap) hh hl vl vh h2 h3 hncap w
        refine ⟨.slice (some ⟨cb, if cap = l then ad else ad + l * P.cellsOf e, none⟩) (h - l) (cap - l), ?_, ?_⟩
        · simp only [Instr.sliceAt, Sem.run_bind, run_underlying (desc_und hd), Result.andThen_ok, Instr.slice, hb, run_size hte, Sem.run_pure]
          by_cases hc : cap = l <;> simp [hc, addr_add]
        · simp only [VR, R]
          refine ⟨cb, base, e0, lim, bo, e', lim', _, cap - l, hM, hnode, hte', by omega, by omega, ?_, ?_, rfl⟩
          · by_cases hc : cap = l
            · exact .inl (by omega)
            · refine .inr ?_
              rw [if_neg hc]
              rcases had with hz | hz
              · omega
              · rw [hz, hsz, Nat.add_mul]; omega
          · intro hq
            simp only [Bool.and_eq_true, beq_eq, decide_eq_true_eq] at hq
            have := hex hq.1; omega
      · rename_i mv
        cases mx' with
        | none => simp [OV] at vm
        | some mv' =>
        split at he <;> try contradiction
        rename_i hv m hm
        cases hi' with
        | none => simp [OV] at vh
        | some hv' =>
        replace he := cond_some he
        obtain ⟨h1, he⟩ := he
        injection he with he; subst he
        simp only [Bool.and_eq_true, ble_eq, decide_eq_true_eq] at h1
        obtain ⟨⟨⟨h1, h2⟩, h3⟩, h4⟩ := h1
        have := tgEq_eq h1; subst this
        have hsz := L.size_eq hte hte'
        have hb := bounds3 (cap := cap) hh hl hm vl vh vm h2 h3 (Nat.le_trans h4 hncap) w
        refine ⟨.slice (some ⟨cb, if m = l then ad else ad + l * P.cellsOf e, none⟩) (h - l) (m - l), ?_, ?_⟩
        · simp only [Instr.sliceAt, Sem.run_bind, run_underlying (desc_und hd), Result.andThen_ok, Instr.slice, hb, run_size hte, Sem.run_pure]
          by_cases hc : m = l <;> simp [hc, addr_add]
        · simp only [VR, R]
          refine ⟨cb, base, e0, lim, bo, e', lim', _, m - l, hM, hnode, hte', by omega, by omega, ?_, ?_, rfl⟩
          · by_cases hc : m = l
            · exact .inl (by omega)
            · refine .inr ?_
              rw [if_neg hc]
              rcases had with hz | hz
              · omega
              · rw [hz, hsz, Nat.add_mul]; omega
          · intro hq
            simp only [beq_eq, decide_eq_true_eq] at hq
            omega
  · -- arrays
    rename_i tg n te hk
    split at he <;> try contradiction
    rename_i tp b p
    split at he <;> try contradiction
    rename_i h l hh hl
    have hm : mx' = none := by cases mx' <;> simp [OV] at vm ⊢
    subst hm
    replace he := cond_some he
    obtain ⟨h1, he⟩ := he
    injection he with he; subst he
    simp only [Bool.and_eq_true, ble_eq, decide_eq_true_eq] at h1
    obtain ⟨⟨h1, h2⟩, h3⟩ := h1
    have := tgEq_eq h1; subst this
    have hx := hx.known (by simp)
    simp only [VR, R] at hx
    obtain ⟨cb, base, e0, lim, i, q, o, t', hM, rfl, ho, htt, hpe⟩ := hx
    injection hpe with hpe; subst hpe
    obtain ⟨e, hd, hte, h0, _, _⟩ := ixK_arr L hk
    obtain ⟨e', hnode, hte'⟩ := nodeT_snoc L hk (base := base) (i := i) (lim := lim) ho htt
    have hsz := L.size_eq hte hte'
    have hb := bounds2 (isS := false) (cap := n) hh hl vl vh h2 h3 (Nat.le_refl _) w
    refine ⟨.slice (some ⟨cb, if n = l then base + i * P.cellsOf e0 + o else base + i * P.cellsOf e0 + o + l * P.cellsOf e, none⟩) (h - l) (n - l), ?_, ?_⟩
    · simp only [Instr.sliceAt, Sem.run_bind, run_underlying (desc_und hd), Result.andThen_ok, Instr.sureAddr, hb, run_size hte, Sem.run_pure]
      by_cases hc : n = l <;> simp [hc, addr_add]
    · simp only [VR, R]
      refine ⟨cb, base, e0, lim, _, e', n, _, n - l, hM, hnode, hte', by omega, by omega, ?_, ?_, rfl⟩
      · by_cases hc : n = l
        · exact .inl (by omega)
        · refine .inr ?_
          rw [if_neg hc, hsz]
      · intro hq
        simp only [beq_eq, decide_eq_true_eq] at hq
        omega
  · cases he
end Go.AM

namespace Go.AM
open Go
variable {P : Program}

theorem bytes_cells {M : Inj} {e : TypeId} (hte : tgo P e = some none) : ∀ {es : List V} {l : List UInt8} {cells : List Value}, bytesOf es = some l → RL P M es (List.replicate es.length e) cells →
    ∃ ns : List Int, cells = ns.map (fun n => Value.int .u8 n) ∧ l = ns.map (fun n => UInt8.ofNat n.toNat)
  | [], l, cells, hb, hr => by
    simp only [bytesOf, Option.some.injEq] at hb; subst hb
    simp only [RL] at hr
    obtain ⟨_, rfl⟩ := hr
    exact ⟨[], rfl, rfl⟩
  | v :: es, l, cells, hb, hr => by
    obtain ⟨n, rfl⟩ : ∃ n, v = .int .u8 n := by
      unfold bytesOf at hb
      split at hb
      · rename_i h1; cases h1
      · rename_i n r h1; injection h1 with h1 h2; exact ⟨n, h1⟩
      · cases hb
    simp only [bytesOf] at hb
    cases hl : bytesOf es with
    | none => rw [hl] at hb; simp at hb
    | some l2 =>
      rw [hl] at hb
      simp only [Option.some.injEq] at hb; subst hb
      simp only [List.length_cons, List.replicate_succ, RL] at hr
      obtain ⟨t, ts', c1, c2, e1, rfl, ok, hv, hl2⟩ := hr
      injection e1 with e1 e2
      subst e1 e2
      simp only [R] at hv; subst hv
      obtain ⟨ns, rfl, rfl⟩ := bytes_cells hte hl hl2
      exact ⟨n :: ns, rfl, rfl⟩

theorem pushes (ns : List Int) : ∀ (acc : ByteArray) (w : World), (forIn (ns.map fun n => Value.int .u8 n) acc fun c (s : ByteArray) =>
    match c with
    | Value.int IntKind.u8 n => (pure (ForInStep.yield (s.push (UInt8.ofNat n.toNat))) : Sem (ForInStep ByteArray))
    | _ => do
      stuck "bytesToString: byte expected"
      pure (ForInStep.yield s)).run P w = .ok ⟨acc.data ++ (ns.map fun n => UInt8.ofNat n.toNat).toArray⟩ w := by
  induction ns with
  | nil => intro acc w; simp
  | cons n ns ih =>
    intro acc w
    simp only [List.map_cons, List.forIn_cons, Sem.run_bind, Sem.run_pure, Result.andThen_ok, ih]
    congr 2
    apply Array.ext'
    simp [ByteArray.push]

theorem cvSl_out (s d e : TypeId) : cvSl P s d e = .sl2 ∨ cvSl P s d e = .bad := by
  unfold cvSl
  cases Nat.beq s d
  · exact .inr rfl
  · simp only [cond_true]
    split
    · exact .inl rfl
    · exact .inr rfl
theorem cvKind_int {s d : TypeId} {k : IntKind} (h : cvKind P s d = .int k) : ∃ k0, P.underlying s = some (.int k0) ∧ P.underlying d = some (.int k) := by
  unfold cvKind at h
  split at h <;> first | contradiction | skip
  · rename_i k0 k1 h1 h2
    injection h with h; subst h
    exact ⟨k0, desc_und h1, desc_und h2⟩
  all_goals first | (split at h <;> contradiction) | (rcases cvSl_out (P := P) _ _ _ with q | q <;> rw [q] at h <;> cases h)
theorem cvKind_same {s d : TypeId} (h : cvKind P s d = .same) : P.underlying s = some .string ∧ P.underlying d = some .string := by
  unfold cvKind at h
  split at h <;> first | contradiction | skip
  · rename_i h1 h2; exact ⟨desc_und h1, desc_und h2⟩
  all_goals first | (split at h <;> contradiction) | (rcases cvSl_out (P := P) _ _ _ with q | q <;> rw [q] at h <;> cases h)
theorem cvKind_s2b {s d : TypeId} (h : cvKind P s d = .s2b) : ∃ e, P.underlying s = some .string ∧ P.underlying d = some (.slice e) ∧ desc P e = some (.int .u8) := by
  unfold cvKind at h
  split at h <;> first | contradiction | skip
  · rename_i e h1 h2
    split at h <;> try contradiction
    rename_i h3
    exact ⟨e, desc_und h1, desc_und h2, h3⟩
  · split at h <;> contradiction
  · rcases cvSl_out (P := P) _ _ _ with q | q <;> rw [q] at h <;> cases h
theorem cvKind_b2s {s d : TypeId} (h : cvKind P s d = .b2s) : ∃ e, P.underlying s = some (.slice e) ∧ P.underlying d = some .string ∧ desc P e = some (.int .u8) := by
  unfold cvKind at h
  split at h <;> first | contradiction | skip
  · split at h <;> contradiction
  · rename_i e h1 h2
    split at h <;> try contradiction
    rename_i h3
    exact ⟨e, desc_und h1, desc_und h2, h3⟩
  · rcases cvSl_out (P := P) _ _ _ with q | q <;> rw [q] at h <;> cases h
theorem cvKind_sl2 {s d : TypeId} (h : cvKind P s d = .sl2) : s = d ∧ ∃ e, P.underlying s = some (.slice e) ∧ desc P e = some (.int .u8) := by
  unfold cvKind at h
  split at h <;> first | contradiction | (split at h <;> contradiction; done) | skip
  rename_i e e2 h1 h2
  unfold cvSl at h
  cases hb : Nat.beq s d with
  | false => rw [hb] at h; cases h
  | true =>
    rw [hb] at h
    simp only [cond_true] at h
    split at h <;> try contradiction
    rename_i h3
    exact ⟨Nat.eq_of_beq_eq_true hb, e, desc_und h1, h3⟩

theorem St.congr {M : Inj} {h h' : H} {w : World} (hg : ∀ b, h.get b = h'.get b) (hn : h.next = h'.next) (S : St P M h w) : St P M h' w :=
  ⟨fun b x g => S.blk b x (by rw [hg]; exact g), fun b b' x x' i i' g g' => S.exc b b' x x' i i' (by rw [hg]; exact g) (by rw [hg]; exact g'), fun b i g => by rw [← hn]; exact S.dom b i g, S.cid⟩
theorem Ext.congr {M M' : Inj} {h h1 h2 : H} {w w' : World} (hg : ∀ b, h1.get b = h2.get b) (hn : h1.next = h2.next) (X : Ext M h w M' h1 w') : Ext M h w M' h2 w' :=
  ⟨X.le, by rw [← hn]; exact X.nx, X.sz, X.keep, fun b x i g => X.own b x i (by rw [hg]; exact g), X.fr, X.tape, X.os, X.out⟩

theorem conv_snd {M : Inj} {h h' : H} {w : World} (L : Lay P) (S : St P M h w) {s d : TypeId} {x r : V} {x' : Value} (he : conv (cvKind P s d) h x = some (r, h')) (hx : VU P M x x') :
    ∃ v' w' M', (convert s d x').run P w = .ok v' w' ∧ St P M' h' w' ∧ Ext M h w M' h' w' ∧ VR P M' r v' := by
  unfold conv at he
  split at he
  · rename_i k hk
    obtain ⟨k0, u1, u2⟩ := cvKind_int hk
    split at he <;> try contradiction
    have := hx.int; subst this
    simp only [Option.some.injEq, Prod.mk.injEq] at he
    obtain ⟨rfl, rfl⟩ := he
    refine ⟨_, w, M, ?_, S, Ext.refl _ _ _, VR_int.2 rfl⟩
    simp [convert, run_underlying u1, run_underlying u2, Conv.intToInt]
  · rename_i hk
    obtain ⟨u1, u2⟩ := cvKind_same hk
    split at he <;> try contradiction
    have := hx.str; subst this
    simp only [Option.some.injEq, Prod.mk.injEq] at he
    obtain ⟨rfl, rfl⟩ := he
    refine ⟨_, w, M, ?_, S, Ext.refl _ _ _, VR_str.2 rfl⟩
    simp [convert, run_underlying u1, run_underlying u2]
  · rename_i hk
    obtain ⟨e, u1, u2, u3⟩ := cvKind_s2b hk
    split at he <;> try contradiction
    rename_i l
    have := hx.str; subst this
    simp only [Option.some.injEq, Prod.mk.injEq] at he
    obtain ⟨rfl, rfl⟩ := he
    have hte : tgo P e = some none := by unfold tgo; rw [u3]
    have h1 := L.one _ hte
    let nc := (Question.appendCap l.length 0 e).cut (w.tape w.drawn (.appendCap l.length 0 e))
    have hnc : l.length ≤ nc := by simp [nc, Question.cut]
    let cells : Array Value := (l.toArray.map fun b => Value.int .u8 (b.toNat : Int)) ++ Array.replicate (nc - l.length) (Value.int .u8 0)
    have hcs : cells.size = nc := by simp [cells]; omega
    let w1 : World := { w with drawn := w.drawn + 1, heap := w.heap.push (.cells cells e) }
    let w2 : World := w1.freeze ⟨w.heap.size, cells.size, none⟩ 1
    have hget1 : w1.heap[w.heap.size]? = some (.cells cells e (0, 0)) := by simp [w1]
    have hch : Ch w w2 w.heap.size (.cells cells e (cells.size, cells.size + 1)) := by
      refine ⟨?_, ?_, ?_, rfl, rfl, rfl⟩
      · simp only [w2, World.freeze, w1]
        rw [if_neg (by simp), Array.getElem?_modify, if_pos rfl]
        simp
      · intro c' hc'
        simp [w2, World.freeze, w1, Array.getElem?_modify, Ne.symm hc', Array.getElem?_push, hc']
      · simp [w2, World.freeze, w1]
    have hrl : ∀ (M : Inj) (l : List UInt8), RL P M (strEl l) (List.replicate (strEl l).length e) (l.map fun b => Value.int .u8 (b.toNat : Int)) := by
      intro M l
      induction l with
      | nil => simp [strEl, RL]
      | cons b l ih =>
        simp only [strEl, List.map_cons, List.length_cons, List.replicate_succ, RL]
        exact ⟨e, _, [.int .u8 b.toNat], _, rfl, rfl, ⟨none, hte, rfl⟩, by simp [R], by simpa [strEl] using ih⟩
    have hlen : (strEl l).length = l.length := by simp [strEl]
    obtain ⟨s1, s2⟩ := S.push (i := .row w.heap.size 0 e nc) (x := .row false (strEl l)) hch (Nat.le_refl _) (by
      refine ⟨w.heap.size, 0, e, nc, Inj.add_self _ _ _, cells, e, cells.size, cells.size + 1, hch.at_, by rw [hlen]; exact hnc, by rw [h1, hcs]; omega, ?_, by intro _; exact ⟨by omega, by intro o ho; omega⟩, by omega, by rw [hte]; rfl⟩
      have := row_take L (hrl (M.add h.next (.row w.heap.size 0 e nc)) l) (List.replicate (nc - l.length) (Value.int .u8 0))
      simpa [cells] using this)
    refine ⟨.slice (some ⟨w.heap.size, 0, none⟩) l.length nc, w2, _, ?_, s1, s2, ?_⟩
    · simp only [convert, Sem.run_bind, run_underlying u1, run_underlying u2, Result.andThen_ok, run_underlying (desc_und u3), Conv.stringToBytes, run_choose, Question.forced, Bool.false_eq_true, if_false, newRow, run_newObj, Sem.run_pure, size_mk, markStringish, run_shape]
      have hsh : ({ w with drawn := w.drawn + 1, heap := w.heap.push (.cells cells e) } : World).shape? w.heap.size = some (e, cells.size) := by
        show w1.shape? w.heap.size = _
        simp only [World.shape?, hget1]
      have hc2 : (Array.map (fun b => Value.int IntKind.u8 ↑b.toNat) l.toArray ++ Array.replicate (nc - l.length) (Value.int IntKind.u8 0)) = cells := rfl
      rw [hc2, hsh]
      rfl
    · have := slc_VR (P := P) (M := M.add h.next (.row w.heap.size 0 e nc)) (b := h.next) (s := 0) (n := l.length) (cap := nc) (x := false) (Inj.add_self _ _ _) hte hnc (by omega) (by simp)
      simpa using this
  · rename_i hk
    obtain ⟨rfl, e, u1, u3⟩ := cvKind_sl2 hk
    split at he <;> try contradiction
    rename_i t b s0 n ex
    split at he <;> try contradiction
    rename_i es hg
    simp only [Option.some.injEq, Prod.mk.injEq] at he
    obtain ⟨rfl, rfl⟩ := he
    have hv := hx.known (by simp)
    have hv0 := hv
    simp only [VR, R] at hv
    obtain ⟨cb, base, e0, lim, bo, e', lim', ad, cap, hM, hnode, hte', hncap, hscap, had, hex, hpe⟩ := hv
    injection hpe with hpe; subst hpe
    obtain ⟨c0, base0, e1, lim0, g1, cells, el, lo, hi', g2, g3, g4, g5, g6, g7, g8⟩ := S.blk _ _ hg
    rw [hM] at g1; injection g1 with g1; injection g1 with g1a g1b g1c g1d
    subst g1a g1b g1c g1d
    obtain ⟨f1, f2⟩ := g6 rfl
    have hlt : cb < w.heap.size := (Array.getElem?_eq_some_iff.1 g2).1
    have hch : ∃ lo2 hi2, Ch w (w.freeze ⟨cb, cells.size, none⟩ 1) cb (.cells cells el (lo2, hi2)) ∧ Frz false cells.size lo2 hi2 := by
      have key : ∀ fz, (if lo == hi' then (cells.size, cells.size + 1) else (min lo cells.size, max hi' (cells.size + 1))) = fz → Ch w (w.freeze ⟨cb, cells.size, none⟩ 1) cb (.cells cells el fz) := by
        intro fz hfz
        refine ⟨?_, ?_, ?_, rfl, rfl, rfl⟩
        · simp only [World.freeze]
          rw [if_neg (by simp), Array.getElem?_modify, if_pos rfl, g2, ← hfz]
          rfl
        · intro c' hc'
          simp [World.freeze, Array.getElem?_modify, Ne.symm hc']
        · simp [World.freeze]
      by_cases hb : lo = hi'
      · subst hb
        exact ⟨_, _, key (cells.size, cells.size + 1) (by simp), fun _ => ⟨by omega, by intro o ho; omega⟩⟩
      · refine ⟨_, _, key (min lo cells.size, max hi' (cells.size + 1)) (by simp [hb]), fun _ => ⟨by omega, fun o ho hh => ?_⟩⟩
        by_cases hc : lo < cells.size
        · exact f2 lo hc ⟨Nat.le_refl _, by omega⟩
        · omega
    obtain ⟨lo2, hi2, hch, hfz⟩ := hch
    obtain ⟨s1, s2⟩ := S.set (x' := .row false es) hg (by simp [rw?]) hM hch ⟨cb, base, e0, lim, hM, cells, el, _, _, hch.at_, g3, g4, g5, hfz, g7, g8⟩
    have hgg : ∀ b', (h.set b (some (.row false es))).get b' = h.get b' := by
      intro b'
      rw [H.get_set _ _ _ _ (H.get_lt hg)]
      by_cases e : b' = b
      · subst e; simp [hg]
      · simp [e]
    refine ⟨_, w.freeze ⟨cb, cells.size, none⟩ 1, M, ?_, s1.congr hgg rfl, s2.congr hgg rfl, hv0⟩
    have hsh : w.shape? cb = some (el, cells.size) := by simp only [World.shape?, g2]
    simp only [convert, Sem.run_bind, run_underlying u1, Result.andThen_ok, beq_self_eq_true, run_underlying (desc_und u3), markStringish, run_shape, hsh, Sem.run_pure]
    rfl
  · rename_i hk
    obtain ⟨e, u1, u2, u3⟩ := cvKind_b2s hk
    have hte : tgo P e = some none := by unfold tgo; rw [u3]
    have h1 := L.one _ hte
    cases hels : h.elems none x with
    | none => rw [hels] at he; simp at he
    | some es =>
      rw [hels] at he
      simp only at he
      cases hb : bytesOf es with
      | none => rw [hb] at he; simp at he
      | some l =>
        rw [hb] at he
        simp only [Option.some.injEq, Prod.mk.injEq] at he
        obtain ⟨rfl, rfl⟩ := he
        obtain ⟨a, cap, rfl, p1, p2, p3⟩ := elems_snd L S hte hels hx
        refine ⟨.string ⟨l.toArray⟩, w, M, ?_, S, Ext.refl _ _ _, VR_str.2 rfl⟩
        cases a with
        | none =>
          obtain ⟨rfl, rfl⟩ := p2 rfl
          simp [bytesOf] at hb; subst hb
          simp [convert, run_underlying u1, run_underlying u2, run_underlying (desc_und u3), Conv.bytesToString]
          rfl
        | some a =>
          have hload : ∃ ns : List Int, (loadCells a es.length).run P w = .ok (ns.map fun n => Value.int .u8 n).toArray w ∧ l = ns.map fun n => UInt8.ofNat n.toNat := by
            rcases p3 with hh | hh | ⟨c, o, cells, el, lo, hi, ee, g2, g3, g4⟩
            · cases hh
            · have : es = [] := List.length_eq_zero_iff.1 hh
              subst this
              simp [bytesOf] at hb; subst hb
              exact ⟨[], by simp [loadCells, loadCellsFrom], rfl⟩
            · injection ee with ee; subst ee
              obtain ⟨ns, e1, e2⟩ := bytes_cells hte hb g4
              refine ⟨ns, ?_, e2⟩
              have hlen : (ns.map fun n => Value.int .u8 n).length = es.length := by
                have := congrArg List.length e1
                rw [List.length_take, List.length_drop, h1] at this
                rw [h1] at g3
                have hz : cells.toList.length = cells.size := by simp
                omega
              have := run_loadCells_list (P := P) w ⟨c, o, none⟩ (ns.map fun n => Value.int .u8 n) (by
                intro j v hj
                rw [addr_add, cell_at g2]
                rw [← e1, List.getElem?_take, List.getElem?_drop] at hj
                split at hj
                · simpa using hj
                · cases hj)
              rw [hlen] at this
              exact this
          obtain ⟨ns, e1, e2⟩ := hload
          simp only [convert, Sem.run_bind, run_underlying u1, run_underlying u2, Result.andThen_ok, run_underlying (desc_und u3), Conv.bytesToString, e1]
          rw [List.forIn_toArray]
          have hp := pushes (P := P) ns .empty w
          simp only [ByteArray.empty, ByteArray.emptyWithCapacity] at hp ⊢
          erw [hp]
          simp only [Result.andThen_ok, Sem.run_pure, e2]
          simp
          rfl
  · cases he
end Go.AM

namespace Go.AM
open Go
variable {P : Program}

/-- storing at a path: what the machine's block must become -/
theorem St.putAt {M : Inj} {h h' : H} {w : World} (L : Lay P) (S : St P M h w) {b i : Nat} {q : List Nat} {u : V} {c base lim : Nat} {e t' : TypeId} {o : Nat} {x : List Value}
    (he : h.putAt b (i :: q) u = some h') (hM : M b = some (.row c base e lim)) (ho : offT P e q = some (o, t')) (okU : okT P u t') (hR : R P M u x) :
    ∃ cells el lo hi, w.heap[c]? = some (.cells cells el (lo, hi)) ∧ base + i * P.cellsOf e + o + x.length ≤ cells.size ∧ (∀ o, o < cells.size → ¬ (lo ≤ o ∧ o < hi)) ∧
      ∀ w', Ch w w' c (.cells (AM.put cells.toList (base + i * P.cellsOf e + o) x).toArray el (lo, hi)) → St P M h' w' ∧ Ext M h w M h' w' := by
  simp only [H.putAt] at he
  cases hg : h.get b with
  | none => rw [hg] at he; simp at he
  | some blk =>
    rw [hg] at he
    cases blk with
    | mp es => simp at he
    | row ro es =>
      cases ro with
      | true => simp at he
      | false =>
        simp only at he
        cases hi : es[i]? with
        | none => rw [hi] at he; simp at he
        | some y =>
          rw [hi] at he; simp only at he
          cases hx : y.put q u with
          | none => rw [hx] at he; simp at he
          | some y' =>
            rw [hx] at he; simp only [Option.some.injEq] at he; subst he
            have hB := S.blk _ _ hg
            obtain ⟨c0, base0, e0, lim0, g1, cells, el, lo, hi', g2, g3, g4, g5, g6, g7, g8⟩ := hB
            rw [hM] at g1; injection g1 with g1; injection g1 with g1a g1b g1c g1d
            subst g1a g1b g1c g1d
            have hil := getElem?_lt hi
            obtain ⟨t1, k1, k2, k3, k4⟩ := RL.get L g5 hi
            rw [List.getElem?_replicate, if_pos hil] at k1
            injection k1 with k1; subst k1
            rw [sum_replicate _ _ _ _ (Nat.le_of_lt hil)] at k3 k4
            obtain ⟨m1, m2, m3⟩ := R.put L q k3 k2 hx ho okU hR
            have hlenU := R.len L _ _ _ hR okU
            have hlen : ((cells.toList.drop base).take (es.length * P.cellsOf e)).length = es.length * P.cellsOf e := by
              rw [List.length_take, List.length_drop]
              have : cells.toList.length = cells.size := by simp
              have := Nat.mul_le_mul_right (P.cellsOf e) g3
              omega
            rw [List.length_take, List.length_drop] at m3
            have hsz : cells.toList.length = cells.size := by simp
            have hmul := Nat.mul_le_mul_right (P.cellsOf e) g3
            rw [hlen] at k4
            refine ⟨cells, el, lo, hi', g2, by omega, (g6 rfl).2, fun w' r2 => ?_⟩
            have hb : HB P M w' b (.row false (es.set i y')) := by
              refine ⟨c, base, e, lim, hM, _, el, lo, hi', r2.at_, by simpa using g3, ?_, ?_, ?_, g7, g8⟩
              · simp only [List.size_toArray]; rw [put_length (by omega)]; simpa using g4
              · have := RL.set L g5 hil (by rw [List.getElem?_replicate, if_pos hil]) m2 m1
                rw [sum_replicate _ _ _ _ (Nat.le_of_lt hil)] at this
                rw [put_put (by rw [hlen]; exact k4) (by omega)] at this
                simp only [List.length_set]
                have e2 : (List.drop base (AM.put cells.toList (base + i * P.cellsOf e + o) x)).take (es.length * P.cellsOf e) = AM.put ((cells.toList.drop base).take (es.length * P.cellsOf e)) (i * P.cellsOf e + o) x := by
                  apply List.ext_getElem?
                  intro j
                  simp only [AM.put, List.append_assoc, List.getElem?_append, List.length_take, List.length_drop, List.getElem?_take, List.getElem?_drop, hsz]
                  repeat' split
                  all_goals first | rfl | omega | (congr 1; omega) | skip
                rw [e2]; exact this
              · intro _; refine ⟨(g6 rfl).1, ?_⟩; simpa using (fun o ho => (g6 rfl).2 o (by rw [put_length (by omega)] at ho; simpa using ho))
            exact S.set hg (by simp [rw?]) hM r2 hb

theorem RL.splice {M : Inj} (L : Lay P) {e : TypeId} {es xs : List V} {c x : List Value} {s : Nat} (h : RL P M es (List.replicate es.length e) c) (hx : RL P M xs (List.replicate xs.length e) x) (hle : s + xs.length ≤ es.length) :
    RL P M (AM.splice es s xs) (List.replicate (AM.splice es s xs).length e) (AM.put c (s * P.cellsOf e) x) := by
  have hcl := RL.len L _ _ _ h
  have h0 := sum_replicate es.length e P.cellsOf es.length (Nat.le_refl _)
  rw [List.take_of_length_le (by simp)] at h0
  rw [h0] at hcl
  have hxl := RL.len L _ _ _ hx
  have h1 := sum_replicate xs.length e P.cellsOf xs.length (Nat.le_refl _)
  rw [List.take_of_length_le (by simp)] at h1
  rw [h1] at hxl
  have a1 := RL.sub L h (s := 0) (n := s) (by omega)
  simp only [Nat.zero_mul, List.drop_zero] at a1
  have a2 := RL.sub L h (s := s + xs.length) (n := es.length - (s + xs.length)) (by omega)
  rw [List.take_of_length_le (by simp), List.take_of_length_le (by rw [List.length_drop, hcl, ← Nat.sub_mul]; exact Nat.le_refl _)] at a2
  have l1 : (es.take s).length = s := by rw [List.length_take]; omega
  have l2 : (es.drop (s + xs.length)).length = es.length - (s + xs.length) := by rw [List.length_drop]
  have b1 := RL.app (P := P) (M := M) (e := e) (as := es.take s) (bs := xs) (by rw [l1]; exact a1) hx
  have b2 := RL.app (P := P) (M := M) (e := e) (as := es.take s ++ xs) (bs := es.drop (s + xs.length)) b1 (by rw [l2]; exact a2)
  simp only [AM.splice, AM.put]
  rw [show s * P.cellsOf e + x.length = (s + xs.length) * P.cellsOf e from by rw [hxl, Nat.add_mul]]
  exact b2

theorem copy_run {w w' : World} {t ty e : TypeId} {sz nx : Nat} (hu : P.underlying t = some (.slice e)) (hsz : (sizeOf e).run P w = .ok sz w) {ats : Array TypeId} (h0 : ats[0]? = some t) {a : Option Addr} {n cap : Nat} {x' : Value}
    (hlen : (Builtin.lenOf x').run P w = .ok nx w) {xc : Array Value} (hx : (Builtin.firstCells sz (Nat.min nx n) x').run P w = .ok xc w) (hs : ∀ a', a = some a' → (storeCells a' xc.toList).run P w = .ok () w') (hn : a = none → w' = w) :
    (Builtin.copy_ ats ty #[.slice a n cap, x']).run P w = .ok (goInt (Nat.min nx n)) w' := by
  simp only [Builtin.copy_, h0]
  cases a with
  | none =>
    have := hn rfl; subst this
    simp [Sem.run_bind, run_underlying hu, Result.andThen_ok, hsz, hlen, hx]
  | some a' => simp [Sem.run_bind, run_underlying hu, Result.andThen_ok, hsz, hlen, hx, hs a' rfl]

theorem put_into {c x : List Value} {a b n : Nat} (h : a + n ≤ c.length) (hb : b + x.length ≤ n) : AM.put c a (AM.put ((c.drop a).take n) b x) = AM.put c (a + b) x := put_put h hb

theorem cpy_snd {M : Inj} {h h' : H} {w : World} (L : Lay P) (S : St P M h w) {t ty e : TypeId} {te : Option Nat} {b : Nat} (hel : elT P t = some (e, te, b)) {d x r : V} {d' x' : Value}
    (he : cpy (some (e, te, b)) h d x = some (r, h')) (hd : VU P M d d') (hx : VU P M x x') {ats : Array TypeId} (h0 : ats[0]? = some t) :
    ∃ v' w', (Builtin.copy_ ats ty #[d', x']).run P w = .ok v' w' ∧ St P M h' w' ∧ Ext M h w M h' w' ∧ VR P M r v' := by
  obtain ⟨hds, hte, hne, rfl⟩ := elT_snd hel
  have hu := desc_und hds
  unfold cpy at he
  simp only at he
  cases hsrc : srcEl h te x with
  | none => rw [hsrc] at he; cases he
  | some xs =>
  cases hels : h.elems te d with
  | none => rw [hsrc, hels] at he; cases he
  | some ds =>
  rw [hsrc, hels] at he
  simp only at he
  obtain ⟨q1, q2⟩ := src_snd L S hte hsrc hx
  obtain ⟨a, cap, rfl, p1, p2, p3⟩ := elems_snd L S hte hels hd
  obtain ⟨xc, hxc, hxr⟩ := q2 (Nat.min xs.length ds.length) (Nat.min_le_left _ _)
  have htk : xs.take (Nat.min xs.length ds.length) = xs.take ds.length := by
    have : Nat.min xs.length ds.length = min ds.length xs.length := by rw [Nat.min_comm]
    rw [this, ← List.take_take, List.take_length]
  rw [htk] at hxr
  have hkl : (xs.take ds.length).length = Nat.min xs.length ds.length := by
    rw [List.length_take, Nat.min_comm]
  have hxr' : RL P M (xs.take ds.length) (List.replicate (xs.take ds.length).length e) xc.toList := by rw [hkl]; exact hxr
  have hxlen : xc.toList.length = (xs.take ds.length).length * P.cellsOf e := by
    have := RL.len L _ _ _ hxr'
    have h2 := sum_replicate (xs.take ds.length).length e P.cellsOf (xs.take ds.length).length (Nat.le_refl _)
    rw [List.take_of_length_le (by simp)] at h2
    rw [h2] at this; exact this
  have hone : ∀ v ∈ xc.toList, v.oneCell' = true := RL.cells1 _ _ _ hxr'
  cases d <;> simp only [reduceCtorEq] at he
  case nils =>
    simp only [Option.some.injEq, Prod.mk.injEq] at he
    obtain ⟨rfl, rfl⟩ := he
    have := hd.known (by simp)
    rw [VR_nils] at this
    injection this with e1 e2 e3
    subst e1
    obtain ⟨rfl, rfl⟩ := p2 rfl
    refine ⟨_, w, copy_run hu (run_size hte w) h0 (q1 w) (hxc w rfl) (by intro a' h; cases h) (fun _ => rfl), S, Ext.refl _ _ _, ?_⟩
    simp [goInt, Nat.min]
  case slz tg =>
    simp only [Option.some.injEq, Prod.mk.injEq] at he
    obtain ⟨rfl, rfl⟩ := he
    have hds0 : ds = [] := by
      simp only [H.elems] at hels
      have := (cond_some hels).2
      injection this with this; exact this.symm
    subst hds0
    have hx0 : xc = #[] := by
      have : xc.toList = [] := List.length_eq_zero_iff.1 (by rw [hxlen]; simp)
      exact Array.toList_eq_nil_iff.1 this
    subst hx0
    have := hd.known (by simp)
    simp only [VR, R] at this
    obtain ⟨a0, e⟩ := this
    injection e with e
    injection e with e1 e2 e3
    subst e1 e3
    refine ⟨_, w, copy_run hu (run_size hte w) h0 (q1 w) (hxc w rfl) (by intro a' h; injection h with h; subst h; simp [storeCells]) (fun h => by cases h), S, Ext.refl _ _ _, ?_⟩
    simp [goInt, Nat.min]
  case slc tg b p s n ex =>
    have hv := hd.known (by simp)
    simp only [VR, R] at hv
    obtain ⟨cb, base, e0, lim, bo, e', lim', ad, cap', hM, hnode, hte', hncap, hscap, had, _, hpe⟩ := hv
    injection hpe with hpe
    injection hpe with e1 e2 e3
    subst e1 e3
    have htg : tg = te := by
      simp only [H.elems] at hels
      exact tgEq_eq (cond_some hels).1
    subst htg
    have hsz := L.size_eq hte hte'
    have hlook := hels
    simp only [H.elems, tgEq_self, cond_true] at hlook
    have hres : VR P M (.int .i64 ((min xs.length ds.length : Nat) : Int)) (goInt (Nat.min xs.length ds.length)) := by rw [VR_int]; rfl
    -- nothing to store
    have hadr : ds.length = 0 ∨ ad = bo + s * P.cellsOf e' := by rcases had with h | h; exact .inl (by omega); exact .inr h
    have hkle : (xs.take ds.length).length ≤ ds.length := by rw [List.length_take]; omega
    cases p with
    | nil =>
      simp only [nodeT, Option.some.injEq, Prod.mk.injEq] at hnode
      obtain ⟨rfl, rfl, rfl⟩ := hnode
      cases hg : h.get b with
      | none => rw [hg] at he; cases he
      | some blk =>
        rw [hg] at he
        cases blk with
        | mp es => cases he
        | row ro es =>
          cases ro with
          | true => cases he
          | false =>
            simp only [Option.some.injEq, Prod.mk.injEq] at he
            obtain ⟨rfl, rfl⟩ := he
            simp only [H.els, hg] at hlook
            have hlook2 := (cond_some hlook).1
            have hlook3 := (cond_some hlook).2
            injection hlook3 with hlook3
            simp only [ble_eq, decide_eq_true_eq] at hlook2
            have hdn : ds.length = n := e2
            subst hdn
            obtain ⟨c0, base0, e1, lim0, g1, cells, el, lo, hi', g2, g3, g4, g5, g6, g7, g8⟩ := S.blk _ _ hg
            rw [hM] at g1; injection g1 with g1; injection g1 with g1a g1b g1c g1d
            subst g1a g1b g1c g1d
            have hmul := Nat.mul_le_mul_right (P.cellsOf e0) g3
            have hmul2 := Nat.mul_le_mul_right (P.cellsOf e0) hlook2
            have hmul3 := Nat.mul_le_mul_right (P.cellsOf e0) hkle
            rw [Nat.add_mul] at hmul2
            rw [hsz] at hxlen
            have hcsz : cells.toList.length = cells.size := by simp
            have hseg : ((cells.toList.drop base).take (es.length * P.cellsOf e0)).length = es.length * P.cellsOf e0 := by
              rw [List.length_take, List.length_drop]; omega
            have hfin : ∀ w', Ch w w' cb (.cells (AM.put cells.toList (base + s * P.cellsOf e0) xc.toList).toArray el (lo, hi')) → St P M (h.set b (some (.row false (splice es s (xs.take ds.length))))) w' ∧ Ext M h w M (h.set b (some (.row false (splice es s (xs.take ds.length))))) w' := by
              intro w' hch
              refine S.set hg (by simp [rw?]) hM hch ?_
              have hspl : (splice es s (xs.take ds.length)).length = es.length := by
                simp only [splice, List.length_append, List.length_take, List.length_drop] at hkle ⊢; omega
              refine ⟨cb, base, e0, lim, hM, _, el, lo, hi', hch.at_, by rw [hspl]; exact g3, ?_, ?_, ?_, g7, g8⟩
              · simp only [List.size_toArray]; rw [put_length (by omega)]; simpa using g4
              · have := RL.splice L g5 (RL.retype hte' hte hxr') (s := s) (by omega)
                rw [hspl] at this ⊢
                have e2 : (List.drop base (AM.put cells.toList (base + s * P.cellsOf e0) xc.toList)).take (es.length * P.cellsOf e0) = AM.put ((cells.toList.drop base).take (es.length * P.cellsOf e0)) (s * P.cellsOf e0) xc.toList := by
                  apply List.ext_getElem?
                  intro j
                  rw [List.getElem?_take, List.getElem?_drop, put_get (by omega), put_get (by omega), List.getElem?_take, List.getElem?_drop]
                  by_cases a1 : j < es.length * P.cellsOf e0
                  · rw [if_pos a1, if_pos a1]
                    by_cases a2 : s * P.cellsOf e0 ≤ j ∧ j < s * P.cellsOf e0 + xc.toList.length
                    · rw [if_pos a2, if_pos (by omega)]; congr 1; omega
                    · rw [if_neg a2, if_neg (by omega)]
                  · rw [if_neg a1, if_neg (by omega), if_neg a1]
                simp only [e2]; exact this
              · intro _
                refine ⟨(g6 rfl).1, fun o ho => ?_⟩
                simp only [List.size_toArray] at ho
                rw [put_length (by omega)] at ho
                exact (g6 rfl).2 o (by simpa using ho)
            rcases hadr with hz | hz
            · have hx0 : xs.take ds.length = [] := by rw [hz]; rfl
              have hxe : xc.toList = [] := List.length_eq_zero_iff.1 (by rw [hxlen, hx0]; simp)
              obtain ⟨f1, f2⟩ := hfin w (by rw [hxe]; simpa [AM.put] using Ch.self g2)
              exact ⟨_, w, copy_run hu (run_size hte w) h0 (q1 w) (hxc w rfl) (by intro a' _; rw [hxe]; rfl) (fun _ => rfl), f1, f2, hres⟩
            · subst hz
              obtain ⟨w', r1, r2⟩ := stores_run (P := P) cb (base + s * P.cellsOf e0) el (lo, hi') xc.toList 0 cells w g2 (by omega) (g6 rfl).2 hone
              obtain ⟨f1, f2⟩ := hfin w' (by simpa using r2)
              exact ⟨_, w', copy_run hu (run_size hte w) h0 (q1 w) (hxc w rfl) (by intro a' h; injection h with h; subst h; exact r1) (by intro h; cases h), f1, f2, hres⟩
    | cons i q =>
      simp only at he
      cases hat : h.at b (i :: q) with
      | none => rw [hat] at he; cases he
      | some y =>
        rw [hat] at he
        cases y <;> simp only [reduceCtorEq] at he
        rename_i u es
        cases hpt : h.putAt b (i :: q) (.agg u (splice es s (xs.take ds.length))) with
        | none => rw [hpt] at he; cases he
        | some h2 =>
          rw [hpt] at he
          simp only [Option.some.injEq, Prod.mk.injEq] at he
          obtain ⟨rfl, rfl⟩ := he
          simp only [H.els, hat] at hlook
          have hlook2 := (cond_some hlook).1
          simp only [ble_eq, decide_eq_true_eq] at hlook2
          have hdn : ds.length = n := e2
          subst hdn
          simp only [nodeT] at hnode
          cases ho : offT P e0 q with
          | none => rw [ho] at hnode; simp at hnode
          | some y =>
            obtain ⟨o, t'⟩ := y
            rw [ho] at hnode; simp only at hnode
            split at hnode <;> try contradiction
            rename_i n2 e2' hd2
            simp only [Option.some.injEq, Prod.mk.injEq] at hnode
            obtain ⟨rfl, rfl, rfl⟩ := hnode
            obtain ⟨cells, el, lo, hi', k1, k2, k3, k4⟩ := S.at L hat hM ho
            have htt : tgo P t' = some (some (undId P t')) := by unfold tgo; rw [hd2]
            have hu2 : u = undId P t' := by simpa [tagOk] using k2.of_tag htt
            subst hu2
            have k3' := k3
            simp only [R] at k3'
            obtain ⟨ktag, k3'⟩ := k3'
            rw [L.kids_eq htt, kid_arr hd2] at k3'
            have hcs : es.length = n2 := by rw [RL.length k3']; simp
            subst hcs
            have hct : P.cellsOf t' = es.length * P.cellsOf e2' := by
              rw [L.sz _ _ htt, kid_arr hd2]
              have := sum_replicate es.length e2' P.cellsOf es.length (Nat.le_refl _)
              rwa [List.take_of_length_le (by simp)] at this
            have hsp := RL.splice L k3' (RL.retype hte' hte hxr') (s := s) (by omega)
            have hspl : (splice es s (xs.take ds.length)).length = es.length := by
              simp only [splice, List.length_append, List.length_take, List.length_drop] at hkle ⊢; omega
            rw [hspl] at hsp
            have hRn : R P M (.agg (undId P t') (splice es s (xs.take ds.length))) (AM.put ((cells.toList.drop (base + i * P.cellsOf e0 + o)).take (P.cellsOf t')) (s * P.cellsOf e2') xc.toList) := by
              simp only [R]
              refine ⟨ktag, ?_⟩
              rw [L.kids_eq htt, kid_arr hd2]
              exact hsp
            have hmul2 := Nat.mul_le_mul_right (P.cellsOf e2') hlook2
            have hmul3 := Nat.mul_le_mul_right (P.cellsOf e2') hkle
            rw [Nat.add_mul] at hmul2
            rw [hsz] at hxlen
            obtain ⟨cells2, el2, lo2, hi2, m1, m2, m3, m4⟩ := S.putAt L hpt hM ho ⟨_, htt, by simp [tagOk]⟩ hRn
            rw [k1] at m1; injection m1 with m1; injection m1 with m1a m1b m1c
            injection m1c with m1c m1d
            subst m1a m1b m1c m1d
            rw [put_into (by simpa using k4) (by rw [hct]; omega)] at m4
            rcases hadr with hz | hz
            · have hx0 : xs.take ds.length = [] := by rw [hz]; rfl
              have hxe : xc.toList = [] := List.length_eq_zero_iff.1 (by rw [hxlen, hx0]; simp)
              obtain ⟨f1, f2⟩ := m4 w (by rw [hxe]; simpa [AM.put] using Ch.self k1)
              exact ⟨_, w, copy_run hu (run_size hte w) h0 (q1 w) (hxc w rfl) (by intro a' _; rw [hxe]; rfl) (fun _ => rfl), f1, f2, hres⟩
            · subst hz
              obtain ⟨w', r1, r2⟩ := stores_run (P := P) cb (base + i * P.cellsOf e0 + o + s * P.cellsOf e2') el (lo, hi') xc.toList 0 cells w k1 (by rw [hct] at k4; omega) m3 hone
              obtain ⟨f1, f2⟩ := m4 w' (by simpa using r2)
              exact ⟨_, w', copy_run hu (run_size hte w) h0 (q1 w) (hxc w rfl) (by intro a' h; injection h with h; subst h; exact r1) (by intro h; cases h), f1, f2, hres⟩
end Go.AM

namespace Go.AM
open Go
variable {P : Program}

/-! maps -/
def flatV : V → Bool | .bool _ => true | .int _ _ => true | .str _ => true | _ => false
theorem flatV_cases {v : V} (h : flatV v = true) : (∃ b, v = .bool b) ∨ (∃ k n, v = .int k n) ∨ (∃ s, v = .str s) := by
  cases v <;> simp [flatV] at h <;> simp
theorem flatK_cases {e : EqK} (h : flatK e = true) : e = .bool ∨ e = .int ∨ e = .str := by
  cases e <;> simp [flatK] at h <;> simp
theorem eqV_flat {e : EqK} (he : flatK e = true) {x y : V} {b : Bool} (h : eqV e x y = some b) : flatV x = true ∧ flatV y = true ∧ (b = true → x = y) := by
  rcases flatK_cases he with rfl | rfl | rfl
  · obtain ⟨c, d, rfl, rfl, rfl⟩ := eqV_bool h
    exact ⟨rfl, rfl, fun h => by simp at h; rw [h]⟩
  · obtain ⟨k, c, d, rfl, rfl, rfl⟩ := eqV_int h
    exact ⟨rfl, rfl, fun h => by simp at h; rw [h]⟩
  · obtain ⟨c, d, rfl, rfl, rfl⟩ := eqV_str h
    exact ⟨rfl, rfl, fun h => by simp at h; rw [h]⟩
theorem flat_R {M : Inj} {v : V} (h : flatV v = true) {c : List Value} (hr : R P M v c) : ∃ v', c = [v'] ∧ ∀ n, Instr.sameBits n v' v' = true := by
  rcases flatV_cases h with ⟨b, rfl⟩ | ⟨k, n, rfl⟩ | ⟨s, rfl⟩ <;> simp only [R] at hr <;> subst hr <;> refine ⟨_, rfl, fun n => ?_⟩ <;> cases n <;> simp [Instr.sameBits, MapKept.bytes_beq]
theorem flat_det {M : Inj} {v : V} (h : flatV v = true) {c c' : List Value} (hr : R P M v c) (hr' : R P M v c') : c = c' := by
  rcases flatV_cases h with ⟨b, rfl⟩ | ⟨k, n, rfl⟩ | ⟨s, rfl⟩ <;> simp only [R] at hr hr' <;> subst hr hr' <;> rfl
theorem flats_det {M : Inj} : ∀ {vs : List V} {ts : List TypeId} {c c' : List Value}, (∀ v ∈ vs, flatV v = true) → RL P M vs ts c → RL P M vs ts c' → c = c'
  | [], ts, c, c', _ => by simp only [RL]; rintro ⟨_, rfl⟩ ⟨_, rfl⟩; rfl
  | v :: vs, ts, c, c', hf => by
    simp only [RL]
    rintro ⟨t, ts', c1, c2, rfl, rfl, _, h1, h2⟩ ⟨t', ts'', d1, d2, e, rfl, _, g1, g2⟩
    injection e with e1 e2; subst e1 e2
    rw [flat_det (hf v (by simp)) h1 g1, flats_det (fun u hu => hf u (by simp [hu])) h2 g2]
theorem flats_bits {M : Inj} : ∀ {vs : List V} {ts : List TypeId} {c : List Value}, (∀ v ∈ vs, flatV v = true) → RL P M vs ts c → ∀ x ∈ c, ∀ n, Instr.sameBits n x x = true
  | [], ts, c, _ => by simp only [RL]; rintro ⟨_, rfl⟩ x hx; cases hx
  | v :: vs, ts, c, hf => by
    simp only [RL]
    rintro ⟨t, ts', c1, c2, rfl, rfl, _, h1, h2⟩ x hx
    obtain ⟨v', rfl, hb⟩ := flat_R (hf v (by simp)) h1
    rcases List.mem_append.1 hx with hx | hx
    · simp at hx; subst hx; exact hb
    · exact flats_bits (fun u hu => hf u (by simp [hu])) h2 x hx

/-- a key that maps of the machine take -/
def keyV (v : V) : Prop := flatV v = true ∨ ∃ t cs, v = .agg t cs ∧ ∀ c ∈ cs, flatV c = true
theorem eqVs_flat : ∀ {ks : List EqK} {xs ys : List V}, ks.all flatK = true → eqVs ks xs ys = some true → xs = ys ∧ ∀ c ∈ xs, flatV c = true
  | [], xs, ys, _, h => by
    cases xs <;> cases ys <;> simp [eqVs] at h
    exact ⟨rfl, by simp⟩
  | k :: ks, xs, ys, hk, h => by
    simp only [List.all_cons, Bool.and_eq_true] at hk
    cases xs with
    | nil => simp [eqVs] at h
    | cons x xs =>
    cases ys with
    | nil => simp [eqVs] at h
    | cons y ys =>
    simp only [eqVs] at h
    cases he : eqV k x y with
    | none => rw [he] at h; cases h
    | some b =>
      obtain ⟨f1, f2, f3⟩ := eqV_flat hk.1 he
      rw [he] at h
      cases b with
      | false => cases h
      | true =>
        obtain ⟨g1, g2⟩ := eqVs_flat hk.2 h
        refine ⟨by rw [f3 rfl, g1], ?_⟩
        intro c hc
        rcases List.mem_cons.1 hc with rfl | hc
        · exact f1
        · exact g2 c hc
theorem eqVs_self : ∀ {ks : List EqK} {xs : List V} {b : Bool}, ks.all flatK = true → eqVs ks xs xs = some b → b = true
  | [], xs, b, _, h => by
    cases xs <;> simp [eqVs] at h
    exact h
  | k :: ks, xs, b, hk, h => by
    simp only [List.all_cons, Bool.and_eq_true] at hk
    cases xs with
    | nil => simp [eqVs] at h
    | cons x xs =>
    simp only [eqVs] at h
    cases he : eqV k x x with
    | none => rw [he] at h; cases h
    | some c =>
      have hc : c = true := by
        rcases flatK_cases hk.1 with rfl | rfl | rfl
        · obtain ⟨c, d, rfl, h2, rfl⟩ := eqV_bool he; injection h2 with h2; simp [h2]
        · obtain ⟨k, c, d, rfl, h2, rfl⟩ := eqV_int he; injection h2 with _ h2; simp [h2]
        · obtain ⟨c, d, rfl, h2, rfl⟩ := eqV_str he; injection h2 with h2; simp [h2]
      subst hc
      rw [he] at h
      exact eqVs_self hk.2 h
theorem plain_true {e : EqK} (hp : plainK e = true) {x y : V} (h : eqV e x y = some true) : x = y ∧ keyV x := by
  by_cases hf : flatK e = true
  · obtain ⟨f1, _, f3⟩ := eqV_flat hf h
    exact ⟨f3 rfl, .inl f1⟩
  · cases e <;> first
      | (exact absurd hp hf; done)
      | skip
    obtain ⟨xs, ys, rfl, rfl, hq⟩ := eqV_agg h
    obtain ⟨g1, g2⟩ := eqVs_flat hp hq
    exact ⟨by rw [g1], .inr ⟨_, _, rfl, g2⟩⟩
theorem plain_self {e : EqK} (hp : plainK e = true) {x : V} {b : Bool} (h : eqV e x x = some b) : eqV e x x = some true := by
  cases e <;> simp only [plainK] at hp <;> first
    | (simp [flatK] at hp; done)
    | skip
  case bool => obtain ⟨c, d, rfl, h2, rfl⟩ := eqV_bool h; injection h2 with h2; simp [eqV]
  case int => obtain ⟨k, c, d, rfl, h2, rfl⟩ := eqV_int h; injection h2 with _ h2; simp [eqV]
  case str => obtain ⟨c, d, rfl, h2, rfl⟩ := eqV_str h; injection h2 with h2; simp [eqV]
  case agg t ks =>
    obtain ⟨xs, ys, rfl, h2, hq⟩ := eqV_agg h
    injection h2 with _ h2; subst h2
    rw [h, eqVs_self hp hq]
theorem key_det {M : Inj} {v : V} (h : keyV v) {v' v'' : Value} (hr : VR P M v v') (hr' : VR P M v v'') : v' = v'' := by
  rcases h with h | ⟨t, cs, rfl, hc⟩
  · have : R P M v [v'] ∧ R P M v [v''] := by
      rcases flatV_cases h with ⟨b, rfl⟩ | ⟨k, n, rfl⟩ | ⟨s, rfl⟩ <;> exact ⟨hr, hr'⟩
    have := flat_det h this.1 this.2
    injection this
  · obtain ⟨c1, rfl, h1⟩ := hr
    obtain ⟨c2, rfl, h2⟩ := hr'
    simp only [R] at h1 h2
    have := flats_det hc h1.2 h2.2
    rw [Array.ext' this]
theorem key_bits {M : Inj} {v : V} (h : keyV v) {v' : Value} (hr : VR P M v v') (n : Nat) : Instr.sameBits (n + 1) v' v' = true := by
  rcases h with h | ⟨t, cs, rfl, hc⟩
  · have hr : R P M v [v'] := by
      rcases flatV_cases h with ⟨b, rfl⟩ | ⟨k, n, rfl⟩ | ⟨s, rfl⟩ <;> exact hr
    obtain ⟨u, e, hb⟩ := flat_R h hr
    injection e with e; subst e
    exact hb _
  · obtain ⟨c1, rfl, h1⟩ := hr
    simp only [R] at h1
    have := flats_bits hc h1.2
    simp only [Instr.sameBits, BEq.rfl, Bool.true_and]
    rw [List.all_eq_true]
    intro ⟨a, b⟩ hm
    have e : a = b := by
      rw [List.zip_eq_zipWith] at hm
      rw [List.mem_iff_getElem?] at hm
      obtain ⟨i, hi⟩ := hm
      rw [List.getElem?_zipWith] at hi
      cases hc : c1.toList[i]? with
      | none => rw [hc] at hi; cases hi
      | some z =>
        rw [hc] at hi
        simp only [Option.some.injEq, Prod.mk.injEq] at hi
        rw [← hi.1, ← hi.2]
    subst e
    exact this a (List.of_mem_zip hm).1 n
theorem stays {M : Inj} {v : V} (h : keyV v) {v' : Value} (hr : VR P M v v') (w : World) : (Instr.keyThatStays v' v').run P w = .ok v' w := by
  unfold Instr.keyThatStays
  rw [show (10000 : Nat) = 9999 + 1 from rfl, key_bits h hr]
  simp

theorem flat_desc {d : Nat} {t : TypeId} (h : flatK (eqk P d t) = true) : ∃ ds, P.underlying t = some ds ∧ (ds = .bool ∨ (∃ k, ds = .int k) ∨ ds = .string) ∧
    ((ds = .bool ∧ eqk P d t = .bool) ∨ ((∃ k, ds = .int k) ∧ eqk P d t = .int) ∨ (ds = .string ∧ eqk P d t = .str)) := by
  cases d with
  | zero => simp [eqk, flatK] at h
  | succ d =>
    unfold eqk at h ⊢
    cases hd : desc P t with
    | none => rw [hd] at h; simp [flatK] at h
    | some ds =>
      have hu := desc_und hd
      rw [hd] at h
      refine ⟨ds, hu, ?_⟩
      cases ds <;> simp only at h ⊢ <;> first
        | (simp [flatK] at h; done)
        | (refine ⟨?_, ?_⟩ <;> simp <;> done)
        | (exfalso; revert h; generalize (_ || _) = z; cases z <;> simp [flatK] <;> done)
        | (exfalso; revert h; generalize Program.eqGuardType _ _ _ = z; cases z <;> simp [flatK] <;> done)

theorem checkKey_flat {M : Inj} {d : Nat} {t : TypeId} (h : flatK (eqk P d t) = true) {v : V} {v' : Value} (hv : flatV v = true) (hr : VR P M v v') (e : Bool) (n : Nat) (w : World) : (Instr.checkKey e (n + 1) t v').run P w = .ok () w := by
  obtain ⟨ds, hu, hc, _⟩ := flat_desc h
  have hr : R P M v [v'] := by
      rcases flatV_cases hv with ⟨b, rfl⟩ | ⟨k, n, rfl⟩ | ⟨s, rfl⟩ <;> exact hr
  rcases flatV_cases hv with ⟨b, rfl⟩ | ⟨k, n, rfl⟩ | ⟨s, rfl⟩ <;> simp only [R] at hr <;> injection hr with hr _ <;> subst hr <;>
    rcases hc with rfl | ⟨k, rfl⟩ | rfl <;> simp [Instr.checkKey, run_underlying hu]

theorem checkKey_snd {M : Inj} (L : Lay P) {d : Nat} {t : TypeId} (hp : plainK (eqk P d t) = true) (hna : ∀ n e, desc P t ≠ some (.array n e)) {v : V} {v' : Value} (he : eqV (eqk P d t) v v = some true) (hr : VR P M v v') (e : Bool) (n : Nat) (w : World) :
    (Instr.checkKey e (n + 2) t v').run P w = .ok () w := by
  obtain ⟨_, hk⟩ := plain_true hp he
  by_cases hf : flatK (eqk P d t) = true
  · exact checkKey_flat hf (eqV_flat hf he).1 hr e _ w
  · cases d with
    | zero => exact (eqV_bad he).elim
    | succ d =>
    unfold eqk at hp he hf
    cases hd : desc P t with
    | none => rw [hd] at he; exact (eqV_bad he).elim
    | some ds =>
      have hu := desc_und hd
      rw [hd] at hp he hf
      cases ds <;> simp only at hp he hf <;> try (first | exact (eqV_bad he).elim | exact (hf rfl).elim | (simp [plainK, flatK] at hp; done))
      case struct fs =>
        by_cases hg : (fs.toList.any (fun f => f.name == "_") || P.stoodInHeld t || P.eqGuardType P.depth t) = true
        · rw [hg] at he; exact (eqV_bad he).elim
        · have hg' := Bool.eq_false_iff.2 hg
          rw [hg'] at he hp
          simp only [cond_false, plainK] at he hp
          obtain ⟨xs, ys, rfl, e2, hq0⟩ := eqV_agg he
          obtain ⟨cx, rfl, hxr⟩ := hr
          have hflat := (eqVs_flat hp hq0).2
          have hK : ∀ i f, fs[i]? = some f → koff P (undId P t) i = some (f.offset, f.type) := by
            intro i f hf
            have ht : tgo P t = some (some (undId P t)) := by unfold tgo; rw [hd]
            rw [L.koff_eq ht]; exact koff_str hd hf
          have hlenx : xs.length = fs.size := by
            have hx2 := hxr; simp only [R] at hx2
            have ht : tgo P t = some (some (undId P t)) := by unfold tgo; rw [hd]
            rw [RL.length hx2.2, L.kids_eq ht]; simp [kids, hd]
          have key : ∀ (l : List Field) (k : Nat), (∀ j, l[j]? = fs[k + j]?) → (forIn l PUnit.unit fun f (_ : PUnit) => do
              if f.name ≠ "_" then Instr.checkKey e (n + 1) f.type (← part f.type cx f.offset)
              pure (ForInStep.yield PUnit.unit) : Sem PUnit).run P w = .ok () w := by
            intro l
            induction l with
            | nil => intro k hl; simp
            | cons f l ih =>
              intro k hl
              have hf : fs[k]? = some f := by simpa using (hl 0).symm
              have hks : k < fs.size := by
                rcases Nat.lt_or_ge k fs.size with h | h
                · exact h
                · rw [Array.getElem?_eq_none h] at hf; cases hf
              have hxk : xs[k]? = some xs[k] := List.getElem?_eq_getElem (by omega)
              obtain ⟨a', p1, v1, _⟩ := part_snd L hxr hxk (hK k f hf) w
              have hfk : flatK (eqk P d f.type) = true := by
                rw [List.all_eq_true] at hp
                apply hp
                rw [List.mem_map]
                exact ⟨f, by rw [List.mem_iff_getElem?]; exact ⟨k, by simpa using hf⟩, rfl⟩
              have hck := checkKey_flat hfk (hflat _ (List.getElem_mem _)) v1 e n w
              have := ih (k + 1) (fun j => by have := hl (j + 1); simp at this; rw [this]; congr 1; omega)
              by_cases hnm : f.name = "_"
              · simp only [List.forIn_cons, hnm, ne_eq, not_true_eq_false, if_false, Sem.run_bind, Sem.run_pure, Result.andThen_ok, this]
              · simp only [List.forIn_cons, hnm, ne_eq, not_false_eq_true, if_true, Sem.run_bind, Sem.run_pure, p1, hck, Result.andThen_ok, this]
          have hk0 := key fs.toList 0 (fun j => by simp)
          unfold Instr.checkKey
          simp only [Sem.run_bind, run_underlying hu, Result.andThen_ok]
          rw [← Array.forIn_toList]
          simp at hk0 ⊢
          rw [hk0]
          rfl
      case array n e => exact absurd hd (hna n e)

def Hit (f : MapEntry → Bool → Prop) : List MapEntry → Option Nat → Prop
  | [], j => j = none
  | e :: es, j => (f e true ∧ j = some 0) ∨ (f e false ∧ ∃ j', Hit f es j' ∧ j = j'.map (· + 1))

theorem Hit.at {f : MapEntry → Bool → Prop} : ∀ {es : List MapEntry} {j : Nat}, Hit f es (some j) → ∃ e, es[j]? = some e ∧ f e true
  | [], j => by simp [Hit]
  | e :: es, j => by
    rintro (⟨h1, h2⟩ | ⟨_, j', h1, h2⟩)
    · injection h2 with h2; subst h2; exact ⟨e, rfl, h1⟩
    · cases j' with
      | none => cases h2
      | some j' =>
        injection h2 with h2; subst h2
        obtain ⟨e', h3, h4⟩ := Hit.at h1
        exact ⟨e', by simpa using h3, h4⟩

theorem hit_now {d : TypeDesc} {k : Value} {f : MapEntry → Bool → Prop} (hf : ∀ e b, f e b → Instr.sameNow d k e.key = some b) : ∀ {es : List MapEntry} {j : Option Nat} (i : Nat), Hit f es j →
    Instr.findNow d k es i = some (j.bind fun j => (es[j]?).map fun e => (i + j, e.val))
  | [], j, i => by
    intro h; simp only [Hit] at h; subst h; rfl
  | e :: es, j, i => by
    rintro (⟨h1, rfl⟩ | ⟨h1, j', h2, rfl⟩)
    · simp only [Instr.findNow, hf _ _ h1]; rfl
    · simp only [Instr.findNow, hf _ _ h1]
      rw [hit_now hf (i + 1) h2]
      cases j' with
      | none => rfl
      | some j' =>
        simp only [Option.map_some, Option.bind_some, List.getElem?_cons_succ]
        rw [show i + 1 + j' = i + (j' + 1) by omega]

theorem hit_ask {t : TypeId} {k : Value} {f : MapEntry → Bool → Prop} (hf : ∀ e b, f e b → ∀ w, (Op.equal t k e.key).run P w = .ok b w) (w : World) : ∀ {es : List MapEntry} {j : Option Nat} (i : Nat), Hit f es j →
    (Instr.findAsking t k es i).run P w = .ok (j.bind fun j => (es[j]?).map fun e => (i + j, e.val)) w
  | [], j, i => by
    intro h; simp only [Hit] at h; subst h; simp [Instr.findAsking]
  | e :: es, j, i => by
    rintro (⟨h1, rfl⟩ | ⟨h1, j', h2, rfl⟩)
    · simp [Instr.findAsking, hf _ _ h1]
    · simp only [Instr.findAsking, Sem.run_bind, hf _ _ h1, Result.andThen_ok, Bool.false_eq_true, if_false]
      rw [hit_ask hf w (i + 1) h2]
      cases j' with
      | none => rfl
      | some j' =>
        simp only [Option.map_some, Option.bind_some, List.getElem?_cons_succ]
        rw [show i + 1 + j' = i + (j' + 1) by omega]

/-- finding a key -/
theorem hit_find {M : Inj} (L : Lay P) {d : Nat} (hD : d ≤ 10000) {t : TypeId} (hp : plainK (eqk P d t) = true) (hna : ∀ n e, desc P t ≠ some (.array n e)) {k : V} {k' : Value} (hk : VR P M k k') {ds : TypeDesc} (hds : desc P t = some ds)
    {es : List MapEntry} {j : Option Nat} (h : Hit (fun e b => ∃ x, eqV (eqk P d t) k x = some b ∧ VR P M x e.key) es j) (w : World) :
    (Instr.findKey t k' es).run P w = .ok (j.bind fun j => (es[j]?).map fun e => (j, e.val)) w := by
  have hu := desc_und hds
  by_cases hf : flatK (eqk P d t) = true
  · obtain ⟨ds', hu', _, hc⟩ := flat_desc hf
    rw [hu] at hu'; injection hu' with hu'; subst hu'
    have := hit_now (d := ds) (k := k') (es := es) (j := j) (fun e b hb => by
      obtain ⟨x, h1, h2⟩ := hb
      rcases hc with ⟨rfl, hq⟩ | ⟨⟨k0, rfl⟩, hq⟩ | ⟨rfl, hq⟩
      · rw [hq] at h1
        obtain ⟨c, e, rfl, rfl, rfl⟩ := eqV_bool h1
        rw [VR_bool] at hk h2; rw [hk, h2]; rfl
      · rw [hq] at h1
        obtain ⟨k1, c, e, rfl, rfl, rfl⟩ := eqV_int h1
        rw [VR_int] at hk h2; rw [hk, h2]; simp [Instr.sameNow]
      · rw [hq] at h1
        obtain ⟨c, e, rfl, rfl, rfl⟩ := eqV_str h1
        rw [VR_str] at hk h2; rw [hk, h2]; simp only [Instr.sameNow, Option.some.injEq]
        rw [Bool.eq_iff_iff, MapKept.bytes_beq]
        simp) 0 h
    simp only [Instr.findKey, Sem.run_bind, run_underlying hu, Result.andThen_ok, this, Sem.run_pure, Nat.zero_add]
  · have hst : ∃ fs, ds = .struct fs := by
      cases d with
      | zero => simp [eqk, plainK, flatK] at hp
      | succ d =>
        unfold eqk at hp hf
        rw [hds] at hp hf
        cases ds <;> simp only at hp hf <;> first
          | (exact ⟨_, rfl⟩; done)
          | (exact absurd rfl hf; done)
          | (simp [plainK, flatK] at hp; done)
          | (exact absurd hds (hna _ _); done)
    obtain ⟨fs, rfl⟩ := hst
    have hask := hit_ask (P := P) (t := t) (k := k') (fun e b hb w => by
      obtain ⟨x, h1, h2⟩ := hb
      exact eqV_snd L d t k x b k' e.key 10000 hD h1 hk h2 w) w 0 h
    simp only [Nat.zero_add] at hask
    cases es with
    | nil =>
      simp only [Hit] at h; subst h
      simp [Instr.findKey, run_underlying hu, Instr.findNow]
    | cons e es =>
      have : Instr.findNow (.struct fs) k' (e :: es) 0 = none := by simp [Instr.findNow, Instr.sameNow]
      simp only [Instr.findKey, Sem.run_bind, run_underlying hu, Result.andThen_ok, this]
      exact hask

theorem findK_hit {M : Inj} {ek : EqK} {k : V} : ∀ {es : List (V × V)} {ents : List MapEntry} {r : Option V}, findK ek k es = some r → MpR P M es ents →
    ∃ j, Hit (fun e b => ∃ x, eqV ek k x = some b ∧ VR P M x e.key) ents j ∧ (match j, r with | none, none => True | some j, some v => eqV ek k k = eqV ek k k ∧ ∃ e, ents[j]? = some e ∧ VR P M v e.val | _, _ => False)
  | [], ents, r => by
    intro h hm; simp only [findK, Option.some.injEq] at h; simp only [MpR] at hm; subst h hm
    exact ⟨none, rfl, trivial⟩
  | (x, v) :: es, ents, r => by
    intro h hm
    simp only [MpR] at hm
    obtain ⟨e, es', rfl, h1, h2, h3⟩ := hm
    simp only [findK] at h
    cases hq : eqV ek k x with
    | none => rw [hq] at h; cases h
    | some b =>
      rw [hq] at h
      cases b with
      | true =>
        simp only [Option.some.injEq] at h; subst h
        exact ⟨some 0, .inl ⟨⟨x, hq, h1⟩, rfl⟩, rfl, e, rfl, h2⟩
      | false =>
        obtain ⟨j, hj, hr⟩ := findK_hit h h3
        refine ⟨j.map (· + 1), .inr ⟨⟨x, hq, h1⟩, j, hj, rfl⟩, ?_⟩
        cases j <;> cases r <;> first | (simp at hr; done) | exact hr | simp

theorem updK_hit {M : Inj} {ek : EqK} {k v : V} {v' : Value} (hv : VR P M v v') : ∀ {es : List (V × V)} {ents : List MapEntry} {es' : List (V × V)}, updK ek k v es = some es' → MpR P M es ents →
    ∃ j, Hit (fun e b => ∃ x, eqV ek k x = some b ∧ VR P M x e.key) ents j ∧ (match j with
      | none => ∀ e, VR P M k e.key → VR P M v e.val → MpR P M es' (ents ++ [e])
      | some j => ∀ k', VR P M k k' → MpR P M es' (ents.modify j fun e => { e with key := k', val := v' }))
  | [], ents, es' => by
    intro h hm; simp only [updK, Option.some.injEq] at h; simp only [MpR] at hm; subst h hm
    exact ⟨none, rfl, fun e h1 h2 => by simp only [MpR, List.nil_append]; exact ⟨e, [], rfl, h1, h2, rfl⟩⟩
  | (x, u) :: es, ents, es' => by
    intro h hm
    simp only [MpR] at hm
    obtain ⟨e, es1, rfl, h1, h2, h3⟩ := hm
    simp only [updK] at h
    cases hq : eqV ek k x with
    | none => rw [hq] at h; cases h
    | some b =>
      rw [hq] at h
      cases b with
      | true =>
        simp only [Option.some.injEq] at h; subst h
        refine ⟨some 0, .inl ⟨⟨x, hq, h1⟩, rfl⟩, fun k' hk => ?_⟩
        simp only [List.modify_zero_cons, MpR]
        exact ⟨_, _, rfl, hk, hv, h3⟩
      | false =>
        simp only at h
        cases hl : updK ek k v es with
        | none => rw [hl] at h; cases h
        | some l =>
          rw [hl] at h
          simp only [Option.some.injEq] at h; subst h
          obtain ⟨j, hj, hr⟩ := updK_hit hv hl h3
          refine ⟨j.map (· + 1), .inr ⟨⟨x, hq, h1⟩, j, hj, rfl⟩, ?_⟩
          cases j with
          | none => exact fun e' g1 g2 => by simp only [List.cons_append, MpR]; exact ⟨_, _, rfl, h1, h2, hr e' g1 g2⟩
          | some j => exact fun k' hk => by simp only [List.modify_succ_cons, MpR]; exact ⟨_, _, rfl, h1, h2, hr k' hk⟩

theorem mapT_snd {t : TypeId} {ek : EqK} {e : TypeId} (h : mapT P t = some (ek, e)) : ∃ kt, desc P t = some (.map kt e) ∧ ek = eqk P eqD kt ∧ (∀ n e, desc P kt ≠ some (.array n e)) := by
  unfold mapT at h
  cases hd : desc P t with
  | none => rw [hd] at h; cases h
  | some d =>
    rw [hd] at h
    cases d <;> simp only [reduceCtorEq] at h
    rename_i kt e0
    cases hk : desc P kt with
    | none =>
      rw [hk] at h; simp only [Option.some.injEq, Prod.mk.injEq] at h
      obtain ⟨rfl, rfl⟩ := h
      exact ⟨kt, rfl, rfl, by simp [hk]⟩
    | some dk =>
      rw [hk] at h
      cases dk <;> simp only [reduceCtorEq, Option.some.injEq, Prod.mk.injEq] at h <;> first
        | (obtain ⟨rfl, rfl⟩ := h
           exact ⟨kt, rfl, rfl, by simp [hk]⟩; done)

theorem eqV_desc {d : Nat} {t : TypeId} {x y : V} {b : Bool} (h : eqV (eqk P d t) x y = some b) : ∃ ds, desc P t = some ds := by
  cases d with
  | zero => exact (eqV_bad h).elim
  | succ d =>
    unfold eqk at h
    cases hd : desc P t with
    | none => rw [hd] at h; exact (eqV_bad h).elim
    | some ds => exact ⟨ds, rfl⟩

theorem eqV_unk {e : EqK} {y : V} {b : Bool} (h : eqV e .unk y = some b) : False := by
  cases e <;> simp [eqV] at h

theorem RVs2 {M : Inj} {a b : V} {a' b' : Value} (ha : VR P M a a') (hb : VR P M b b') : VR P M (.tup [a, b]) (.tuple #[a', b']) := by
  simp only [VR, R]
  refine ⟨[a', b'], rfl, ?_⟩
  simp only [RVs]
  exact ⟨a', [b'], rfl, ha, b', [], rfl, hb, rfl⟩

theorem mlook_run {w : World} {t kt e : TypeId} (hu : P.underlying t = some (.map kt e)) {m' k' : Value} {ok : Bool} {es : Array MapEntry} (hm : (m' = .map none ∧ es = #[]) ∨ ∃ c clock, m' = .map (some c) ∧ w.heap[c]? = some (.map es clock))
    (hc : ∀ b, (Instr.checkKey b 10000 kt k').run P w = .ok () w) {r : Option (Nat × Value)} (hf : (Instr.findKey kt k' es.toList).run P w = .ok r w) {zv : Value} (hz : r = none → (zeroValue e).run P w = .ok zv w) :
    (Instr.lookup t m' k' ok).run P w = .ok (match r with | some (_, v) => if ok then .tuple #[v, .bool true] else v | none => if ok then .tuple #[zv, .bool false] else zv) w := by
  have hm2 : (match (generalizing := false) m' with
    | .map none => pure #[]
    | .map (some r) => do
      let .map es _ ← getObj r | stuck "Lookup: map expected"
      pure es
    | _ => stuck "Lookup: map expected" : Sem (Array MapEntry)).run P w = .ok es w := by
    rcases hm with ⟨rfl, rfl⟩ | ⟨c, clock, rfl, hh⟩
    · simp
    · simp [MapKept.run_getObj_map hh]
  cases r with
  | none =>
    have hz := hz rfl
    rcases hm with ⟨rfl, rfl⟩ | ⟨c, clock, rfl, hh⟩
    · simp only [Instr.lookup, Sem.run_bind, run_underlying hu, Result.andThen_ok, Sem.run_pure, hc, hf, hz]
    · simp only [Instr.lookup, Sem.run_bind, run_underlying hu, Result.andThen_ok, Sem.run_pure, hc, hf, hz, MapKept.run_getObj_map hh]
  | some v =>
    rcases hm with ⟨rfl, rfl⟩ | ⟨c, clock, rfl, hh⟩
    · simp only [Instr.lookup, Sem.run_bind, run_underlying hu, Result.andThen_ok, Sem.run_pure, hc, hf]
    · simp only [Instr.lookup, Sem.run_bind, run_underlying hu, Result.andThen_ok, Sem.run_pure, hc, hf, MapKept.run_getObj_map hh]

theorem mlook_snd {M : Inj} {h : H} {w : World} (L : Lay P) (S : St P M h w) {t e : TypeId} {ek : EqK} (hm : mapT P t = some (ek, e)) {m k r : V} {m' k' : Value} {ok : Bool}
    (he : mlook ek (zeroV P e) h m k ok = some r) (hM : VU P M m m') (hk : VU P M k k') : ∃ v', (Instr.lookup t m' k' ok).run P w = .ok v' w ∧ VR P M r v' := by
  obtain ⟨kt, hd, rfl, hna⟩ := mapT_snd hm
  have hu := desc_und hd
  unfold mlook at he
  replace he := cond_none he
  obtain ⟨hp, he⟩ := he
  simp only [Bool.not_eq_false'] at hp
  -- the entries
  obtain ⟨es, ents, hes, hmr, hmm⟩ : ∃ (es : List (V × V)) (ents : Array MapEntry), mapEs h m = some es ∧ MpR P M es ents.toList ∧
      ((m' = .map none ∧ ents = #[]) ∨ ∃ c clock, m' = .map (some c) ∧ w.heap[c]? = some (.map ents clock)) := by
    cases hes : mapEs h m with
    | none => rw [hes] at he; cases he
    | some es =>
    clear he
    cases m <;> simp only [mapEs, reduceCtorEq] at hes
    case nilm =>
      injection hes with hes; subst hes
      have := hM.known (by simp)
      rw [VR_nilm] at this
      exact ⟨[], #[], rfl, rfl, .inl ⟨this, rfl⟩⟩
    case map b =>
      have hv := hM.known (by simp)
      simp only [VR, R] at hv
      obtain ⟨c, hMb, hc⟩ := hv
      injection hc with hc _
      cases hg : h.get b with
      | none => rw [hg] at hes; cases hes
      | some x =>
        cases x with
        | row ro es => rw [hg] at hes; cases hes
        | mp es =>
          rw [hg] at hes; injection hes with hes; subst hes
          obtain ⟨c0, ents, clock, g1, g2, g3⟩ := S.blk _ _ hg
          rw [hMb] at g1; injection g1 with g1; injection g1 with g1; subst g1
          exact ⟨_, ents, rfl, g3, .inr ⟨c, clock, hc, g2⟩⟩
  rw [hes] at he
  simp only at he
  cases hq : findK (eqk P eqD kt) k es with
  | none => rw [hq] at he; cases he
  | some fr =>
    rw [hq] at he
    obtain ⟨j, hj, hr⟩ := findK_hit hq hmr
    -- the key holds against itself
    obtain ⟨hself, hds, hkn⟩ : eqV (eqk P eqD kt) k k = some true ∧ (∃ ds, desc P kt = some ds) ∧ k ≠ .unk := by
      cases fr with
      | some v =>
        cases j with
        | none => exact hr.elim
        | some j =>
          obtain ⟨e0, _, x, hx, _⟩ := hj.at
          obtain ⟨rfl, _⟩ := plain_true hp hx
          exact ⟨hx, eqV_desc hx, by rintro rfl; exact eqV_unk hx⟩
      | none =>
        simp only at he
        cases hs : eqV (eqk P eqD kt) k k with
        | none => rw [hs] at he; cases he
        | some b => exact ⟨by rw [← hs]; exact plain_self hp hs, eqV_desc hs, by rintro rfl; exact eqV_unk hs⟩
    obtain ⟨ds, hds⟩ := hds
    have hkv := hk.known hkn
    have hchk := checkKey_snd L hp hna hself hkv
    have hfind := hit_find L (by decide) hp hna hkv hds hj w
    cases fr with
    | some v =>
      cases j with
      | none => exact hr.elim
      | some j =>
        obtain ⟨_, e0, h1, h2⟩ := hr
        simp only [Option.bind_some, h1, Option.map_some] at hfind
        refine ⟨_, mlook_run hu hmm (fun b => hchk b 9998 w) hfind (zv := undef) (by simp), ?_⟩
        simp only [Option.some.injEq] at he; subst he
        cases ok
        · exact h2
        · exact RVs2 h2 (by simp)
    | none =>
      cases j with
      | some j => exact hr.elim
      | none =>
        simp only [hself] at he
        cases hz : zeroV P e with
        | none => rw [hz] at he; cases he
        | some z =>
          rw [hz] at he
          obtain ⟨zv, z1, z2, z3⟩ := zero_snd L M hz
          have z4 := zero_VR (zero_form hz (z1 w)) z2
          refine ⟨_, mlook_run hu hmm (fun b => hchk b 9998 w) hfind (fun _ => z1 w), ?_⟩
          simp only [Option.some.injEq] at he; subst he
          cases ok
          · exact z4
          · exact RVs2 z4 (by simp)

theorem upd_snd {M : Inj} {h h' : H} {w : World} (L : Lay P) (S : St P M h w) {t e : TypeId} {ek : EqK} (hm : mapT P t = some (ek, e)) {m k v : V} {m' k' v' : Value}
    (he : upd ek h m k v = some h') (hM : VU P M m m') (hk : VU P M k k') (hv : VU P M v v') : ∃ w', (Instr.mapUpdate t m' k' v').run P w = .ok () w' ∧ St P M h' w' ∧ Ext M h w M h' w' := by
  obtain ⟨kt, hd, rfl, hna⟩ := mapT_snd hm
  have hu := desc_und hd
  unfold upd at he
  replace he := cond_none he
  obtain ⟨hp, he⟩ := he
  simp only [Bool.not_eq_false', Bool.and_eq_true] at hp
  obtain ⟨hp, hvk⟩ := hp
  replace hv := hv.known (by rintro rfl; cases hvk)
  cases m <;> simp only [reduceCtorEq] at he
  rename_i b
  have hmv := hM.known (by simp)
  simp only [VR, R] at hmv
  obtain ⟨c, hMb, hc⟩ := hmv
  injection hc with hc _
  subst hc
  cases hg : h.get b with
  | none => rw [hg] at he; cases he
  | some x =>
  cases x with
  | row ro es => rw [hg] at he; cases he
  | mp es =>
  rw [hg] at he
  cases hs : eqV (eqk P eqD kt) k k with
  | none => rw [hs] at he; cases he
  | some bb =>
  have hself := plain_self hp hs
  rw [hs] at he
  simp only at he
  cases hq : updK (eqk P eqD kt) k v es with
  | none => rw [hq] at he; cases he
  | some es' =>
  rw [hq] at he
  simp only [Option.some.injEq] at he; subst he
  obtain ⟨c0, ents, clock, g1, g2, g3⟩ := S.blk _ _ hg
  rw [hMb] at g1; injection g1 with g1; injection g1 with g1; subst g1
  obtain ⟨ds, hds⟩ := eqV_desc hself
  have hkv := hk.known (by rintro rfl; exact eqV_unk hself)
  obtain ⟨j, hj, hr⟩ := updK_hit hv hq g3
  have hchk := checkKey_snd L hp hna hself hkv false 9998 w
  have hfind := hit_find L (by decide) hp hna hkv hds hj w
  have hlt : c < w.heap.size := by
    rcases Nat.lt_or_ge c w.heap.size with h | h
    · exact h
    · rw [Array.getElem?_eq_none h] at g2; cases g2
  have hch : ∀ o, Ch w { w with heap := w.heap.setIfInBounds c o } c o := fun o => ⟨(MapKept.heap_set g2).1, fun c' hc' => (MapKept.heap_set g2).2 c' hc', by simp, rfl, rfl, rfl⟩
  cases j with
  | none =>
    simp only [Option.bind_none] at hfind
    refine ⟨_, ?_, S.set hg trivial hMb (hch (.map (ents.push { key := k', val := v', born := clock }) (clock + 1))) ⟨c, _, _, hMb, (MapKept.heap_set g2).1, ?_⟩⟩
    · simp only [Instr.mapUpdate, Sem.run_bind, run_underlying hu, MapKept.run_getObj_map g2, Result.andThen_ok, hchk, hfind, MapKept.run_setObj_map _ g2]
    · rw [Array.toList_push]; exact hr _ hkv hv
  | some j =>
    obtain ⟨e0, h1, x, h2, h3⟩ := hj.at
    obtain ⟨rfl, hkey⟩ := plain_true hp h2
    have hold : e0.key = k' := key_det hkey h3 hkv
    simp only [Option.bind_some, h1, Option.map_some] at hfind
    have h1' : ents[j]? = some e0 := by simpa using h1
    refine ⟨_, ?_, S.set hg trivial hMb (hch (.map (ents.modify j fun e => { e with key := k', val := v' }) clock)) ⟨c, _, _, hMb, (MapKept.heap_set g2).1, ?_⟩⟩
    · simp only [Instr.mapUpdate, Sem.run_bind, run_underlying hu, MapKept.run_getObj_map g2, Result.andThen_ok, hchk, hfind, h1', Option.map_some, Option.getD_some, hold, stays hkey hkv, MapKept.run_setObj_map _ g2]
    · rw [Array.toList_modify]; exact hr _ hkv

theorem mkMap_snd {M : Inj} {h h' : H} {w : World} (S : St P M h w) {t : TypeId} {r : V} (he : mkMap h = some (r, h')) : ∃ v' w' M', (Instr.makeMap t none).run P w = .ok v' w' ∧ St P M' h' w' ∧ Ext M h w M' h' w' ∧ VR P M' r v' := by
  simp only [mkMap, Option.some.injEq, Prod.mk.injEq] at he
  obtain ⟨rfl, rfl⟩ := he
  have hch := Ch.new w (.map #[] 0)
  obtain ⟨s1, s2⟩ := S.push (x := .mp []) (i := .mp w.heap.size) hch (Nat.le_refl _) ⟨w.heap.size, #[], 0, Inj.add_self _ _ _, hch.at_, rfl⟩
  refine ⟨.map (some w.heap.size), _, _, ?_, s1, s2, ?_⟩
  · simp [Instr.makeMap]
  · simp only [VR, R]; exact ⟨_, Inj.add_self _ _ _, rfl⟩
end Go.AM

namespace Go.AM
open Go
variable {P : Program}

theorem bnd_some {α : Type} {x : Option α} {k : α → Ans} {r : V × H} (h : bnd x k = some r) : ∃ v, x = some v ∧ k v = some r := by
  cases x with
  | none => cases h
  | some v => exact ⟨v, rfl, h⟩
theorem bnd2_some {x : Ans} {k : V → H → Ans} {r : V × H} (h : bnd2 x k = some r) : ∃ v h', x = some (v, h') ∧ k v h' = some r := by
  cases x with
  | none => cases h
  | some v => exact ⟨v.1, v.2, rfl, h⟩

/-- what the machine's run of an operation must answer -/
def OpR (P : Program) (M : Inj) (h : H) (w : World) (v : V) (h1 : H) (v' : Value) (w' : World) : Prop :=
  ∃ M', St P M' h1 w' ∧ Ext M h w M' h1 w' ∧ VU P M' v v'

theorem OpR.pure {M : Inj} {h : H} {w : World} {v : V} {v' : Value} (S : St P M h w) (hv : VU P M v v') : OpR P M h w v h v' w := ⟨M, S, Ext.refl _ _ _, hv⟩

theorem OpS.val {M : Inj} {h : H} {w : World} {s : Sem Value} {v : V} (S : St P M h w) (h1 : ∃ v', s.run P w = .ok v' w ∧ VR P M v v') : OpS P (do pure (.value (← s))) w (OpR P M h w v h) := by
  obtain ⟨v', h1, h2⟩ := h1
  exact OpS.value h1 (OpR.pure S (.inr h2))
theorem OpS.val2 {M : Inj} {h h' : H} {w : World} {s : Sem Value} {v : V} (h1 : ∃ v' w' M', s.run P w = .ok v' w' ∧ St P M' h' w' ∧ Ext M h w M' h' w' ∧ VR P M' v v') : OpS P (do pure (.value (← s))) w (OpR P M h w v h') := by
  obtain ⟨v', w', M', h1, h2, h3, h4⟩ := h1
  exact OpS.value h1 ⟨M', h2, h3, .inr h4⟩

/-- the callees -/
def EnvS (P : Program) (env : Env) : Prop := ∀ g args h v h', env g args h = some (v, h') → (∃ fn, P.funcs[g]? = some fn ∧ fn.name ≠ "runtime.NumGoroutine" ∧ fn.body.isSome) ∧
  ∀ M w args', St P M h w → UVs P M args args' → Calls P g args'.toArray w fun e w' => ∃ v', e = .returned v' ∧ OpR P M h w v h' v' w'

theorem callFunc_run {g : FuncId} {args : Array Value} {w : World} {fn : Func} (h1 : P.funcs[g]? = some fn) (h2 : fn.name ≠ "runtime.NumGoroutine") (h3 : fn.body.isSome) : (callFunc g args).run P w = .ok (.enter g args) w := by
  obtain ⟨b, hb⟩ := Option.isSome_iff_exists.1 h3
  simp [callFunc, h1, h2, hb]

theorem RVs.UVs {M : Inj} : ∀ {vs : List V} {vs' : List Value}, RVs P M vs vs' → UVs P M vs vs'
  | [], _, h => h
  | v :: vs, _, h => by
    simp only [RVs] at h
    obtain ⟨v', c', e, h1, h2⟩ := h
    exact ⟨v', c', e, .inr h1, RVs.UVs h2⟩
theorem UVs.app {M : Inj} : ∀ {a b : List V} {a' b' : List Value}, UVs P M a a' → UVs P M b b' → UVs P M (a ++ b) (a' ++ b')
  | [], b, _, b', h, hb => by simp only [AM.UVs] at h; subst h; exact hb
  | v :: vs, b, _, b', ⟨v', c', e, h1, h2⟩, hb => by subst e; exact ⟨v', _, rfl, h1, UVs.app h2 hb⟩

theorem callV_snd {env : Env} (E : EnvS P env) {M : Inj} {h h' : H} {w : World} (S : St P M h w) {f v : V} {args : List V} {f' : Value} {args' : Array Value} (he : callV env f args h = some (v, h')) (hf : VU P M f f') (ha : UVs P M args args'.toList) :
    OpS P (do let d ← Deferred.ofValue f' args'; invoke d.target d.args) w (OpR P M h w v h') := by
  unfold callV at he
  split at he <;> try contradiction
  rename_i g first caps
  have hv := hf.known (by simp)
  simp only [VR, R] at hv
  obtain ⟨a', b', e, h1, h2⟩ := hv
  injection e with e; subst e
  obtain ⟨⟨fn, g1, g2, g3⟩, hc⟩ := E _ _ _ _ _ he
  have hcall := hc M w (a' ++ (args'.toList ++ b')) S (h1.UVs.app (ha.app h2.UVs))
  have hrun : (do let d ← Deferred.ofValue (.func (.func g) a'.toArray b'.toArray) args'; invoke d.target d.args : Sem Next).run P w = .ok (.enter g (a' ++ (args'.toList ++ b')).toArray) w := by
    simp only [Deferred.ofValue, Sem.run_bind, Sem.run_pure, Result.andThen_ok, invoke, callFunc_run g1 g2 g3]
    congr 2
    apply Array.ext'
    simp
  unfold OpS
  rw [hrun]
  refine Calls.mono hcall fun e w' hh => ?_
  obtain ⟨v', rfl, hh⟩ := hh
  exact hh

theorem PR.map {M : Inj} {fr : Fr} {a : Act} (F : Fit P M fr a) : ∀ l : List (Nat × Operand), PR P M (l.map fun (i, x) => (i, evO fr x)) (l.map fun (i, x) => (i, a.eval x))
  | [] => .nil
  | (_, x) :: l => .cons (evO_VU F x) (PR.map F l)

theorem OV.map {M : Inj} {fr : Fr} {a : Act} (F : Fit P M fr a) (x : Option Operand) : OV P M (x.map (evO fr)) (x.map a.eval) := by
  cases x with
  | none => trivial
  | some x => exact evO_VU F x

theorem eqGuard_no {op : BinOp} {t : TypeId} {x y : Operand} {a b : Value} (w : World) (h1 : ¬ (a = .nilIface ∧ b = .nilIface)) (h2 : P.eqGuardType P.depth t = true → ∀ c, a ≠ .agg c) : (eqGuard op t x y a b).run P w = .ok () w := by
  unfold eqGuard
  cases a <;> cases b <;> first
    | (exact absurd ⟨rfl, rfl⟩ h1)
    | (cases op <;> simp <;> done)
    | skip
  rename_i c d
  cases hg : P.eqGuardType P.depth t with
  | true => exact absurd rfl (h2 hg c)
  | false => cases op <;> simp [hg]

theorem binE_snd {M : Inj} {w : World} (L : Lay P) {neg : Bool} {t : TypeId} {x y : Operand} {a b r : V} {a' b' : Value} (he : binE neg (eqk P eqD t) a b = some r) (ha : VU P M a a') (hb : VU P M b b') :
    ∃ v', (do eqGuard (if neg then .neq else .eql) t x y a' b'; binOp (if neg then .neq else .eql) t a' b' : Sem Value).run P w = .ok v' w ∧ VR P M r v' := by
  unfold binE at he
  cases hq : eqV (eqk P eqD t) a b with
  | none => rw [hq] at he; cases he
  | some q =>
  rw [hq] at he
  simp only [Option.some.injEq] at he; subst he
  have ha := ha.known (by rintro rfl; exact eqV_unk hq)
  have hbk : b ≠ .unk := by
    rintro rfl
    revert hq; cases eqk P eqD t <;> cases a <;> simp [eqV]
  have hb := hb.known hbk
  have hni : ¬ (a' = .nilIface ∧ b' = .nilIface) := by
    rintro ⟨rfl, _⟩
    have : a = .nili := by
      cases a <;> simp only [VR, R] at ha <;> first
        | rfl
        | (injection ha with ha; cases ha; done)
        | (exfalso; simp at ha; done)
        | (exfalso; obtain ⟨_, _, h⟩ := ha; simp at h; done)
    subst this
    revert hq; cases eqk P eqD t <;> cases b <;> simp [eqV]
  have hag : P.eqGuardType P.depth t = true → ∀ c, a' ≠ .agg c := by
    rintro hg c rfl
    have : ∃ u cs, a = .agg u cs := by
      cases a <;> simp only [VR, R] at ha <;> first
        | exact ⟨_, _, rfl⟩
        | (exfalso; simp at ha; done)
        | (exfalso; simp [undef] at ha; done)
    obtain ⟨u, cs, rfl⟩ := this
    unfold eqD eqk at hq
    cases hd : desc P t with
    | none => rw [hd] at hq; exact eqV_bad hq
    | some ds =>
      rw [hd] at hq
      cases ds <;> simp only [hg, Bool.or_true, cond_true] at hq <;> first
        | exact eqV_bad hq
        | (revert hq; cases b <;> simp [eqV]; done)
  have heq := eqV_snd L eqD t a b q a' b' 10000 (by decide) hq ha hb w
  have heq : (Op.equal t a' b').run P w = .ok q w := heq
  have step : (binOp .eql t a' b').run P w = .ok (.bool q) w ∧ (binOp .neq t a' b').run P w = .ok (.bool (!q)) w := by
    generalize eqk P eqD t = ek at hq
    cases ek
    case bool =>
      obtain ⟨c, d, rfl, rfl, rfl⟩ := eqV_bool hq
      rw [VR_bool] at ha hb; subst ha hb
      constructor <;> simp [binOp, heq]
    case int =>
      obtain ⟨k, c, d, rfl, rfl, rfl⟩ := eqV_int hq
      rw [VR_int] at ha hb; subst ha hb
      constructor <;> simp [binOp, Op.intCmp, bne]
    case str =>
      obtain ⟨c, d, rfl, rfl, rfl⟩ := eqV_str hq
      rw [VR_str] at ha hb; subst ha hb
      have hq2 : ((⟨c.toArray⟩ : ByteArray) == ⟨d.toArray⟩) = (c == d) := by
        rw [Bool.eq_iff_iff, MapKept.bytes_beq]; simp
      constructor <;> simp [binOp, Op.stringOp]
    case ptr =>
      rcases eqV_ptr hq with ⟨rfl, rfl, rfl⟩ | ⟨rfl, ⟨_, _, _, rfl⟩, rfl⟩ | ⟨⟨_, _, _, rfl⟩, rfl, rfl⟩
      · rw [VR_nilp] at ha hb; subst ha hb
        constructor <;> simp [binOp, heq]
      · rw [VR_nilp] at ha; subst ha
        simp only [VR, R] at hb
        obtain ⟨_, _, _, _, _, _, _, _, _, _, _, _, e⟩ := hb
        injection e with e; subst e
        constructor <;> simp [binOp, heq]
      · rw [VR_nilp] at hb; subst hb
        simp only [VR, R] at ha
        obtain ⟨_, _, _, _, _, _, _, _, _, _, _, _, e⟩ := ha
        injection e with e; subst e
        constructor <;> simp [binOp, heq]
    case slc =>
      rcases eqV_slc hq with ⟨rfl, rfl, rfl⟩ | ⟨rfl, ⟨_, _, _, _, _, _, rfl⟩, rfl⟩ | ⟨⟨_, _, _, _, _, _, rfl⟩, rfl, rfl⟩ | ⟨rfl, ⟨_, rfl⟩, rfl⟩ | ⟨⟨_, rfl⟩, rfl, rfl⟩
      · rw [VR_nils] at ha hb; subst ha hb
        constructor <;> simp [binOp, heq]
      · rw [VR_nils] at ha; subst ha
        simp only [VR, R] at hb
        obtain ⟨_, _, _, _, _, _, _, _, _, _, _, _, _, _, _, _, e⟩ := hb
        injection e with e; subst e
        constructor <;> simp [binOp, heq]
      · rw [VR_nils] at hb; subst hb
        simp only [VR, R] at ha
        obtain ⟨_, _, _, _, _, _, _, _, _, _, _, _, _, _, _, _, e⟩ := ha
        injection e with e; subst e
        constructor <;> simp [binOp, heq]
      · rw [VR_nils] at ha; subst ha
        simp only [VR, R] at hb
        obtain ⟨_, e⟩ := hb
        injection e with e; subst e
        constructor <;> simp [binOp, heq]
      · rw [VR_nils] at hb; subst hb
        simp only [VR, R] at ha
        obtain ⟨_, e⟩ := ha
        injection e with e; subst e
        constructor <;> simp [binOp, heq]
    case map =>
      rcases eqV_map hq with ⟨rfl, rfl, rfl⟩ | ⟨rfl, ⟨_, rfl⟩, rfl⟩ | ⟨⟨_, rfl⟩, rfl, rfl⟩
      · rw [VR_nilm] at ha hb; subst ha hb
        constructor <;> simp [binOp, heq]
      · rw [VR_nilm] at ha; subst ha
        simp only [VR, R] at hb
        obtain ⟨_, _, e⟩ := hb
        injection e with e; subst e
        constructor <;> simp [binOp, heq]
      · rw [VR_nilm] at hb; subst hb
        simp only [VR, R] at ha
        obtain ⟨_, _, e⟩ := ha
        injection e with e; subst e
        constructor <;> simp [binOp, heq]
    case fn =>
      rcases eqV_fn hq with ⟨rfl, rfl, rfl⟩ | ⟨rfl, ⟨_, _, _, rfl⟩, rfl⟩ | ⟨⟨_, _, _, rfl⟩, rfl, rfl⟩
      · rw [VR_nilf] at ha hb; subst ha hb
        constructor <;> simp [binOp, heq]
      · rw [VR_nilf] at ha; subst ha
        simp only [VR, R] at hb
        obtain ⟨_, _, e, _⟩ := hb
        injection e with e; subst e
        constructor <;> simp [binOp, heq]
      · rw [VR_nilf] at hb; subst hb
        simp only [VR, R] at ha
        obtain ⟨_, _, e, _⟩ := ha
        injection e with e; subst e
        constructor <;> simp [binOp, heq]
    case bad => exact (eqV_bad hq).elim
    case agg u ks =>
      obtain ⟨xs, ys, rfl, rfl, _⟩ := eqV_agg hq
      obtain ⟨cx, rfl, _⟩ := ha
      obtain ⟨cy, rfl, _⟩ := hb
      constructor <;> simp [binOp, heq]
  cases neg
  · simp only [Bool.false_eq_true, if_false, Sem.run_bind, eqGuard_no w hni hag, Result.andThen_ok, step.1]
    exact ⟨_, rfl, by simp⟩
  · simp only [if_true, Sem.run_bind, eqGuard_no w hni hag, Result.andThen_ok, step.2]
    exact ⟨_, rfl, by simp⟩
end Go.AM

namespace Go.AM
open Go
variable {P : Program}

theorem argv {args : Array Operand} {M : Inj} {fr : Fr} {a : Act} (F : Fit P M fr a) {l : List V} (h : args.toList.map (evO fr) = l) : ∃ l', args.map a.eval = ⟨l'⟩ ∧ UVs P M l l' :=
  ⟨(args.map a.eval).toList, rfl, by rw [← h, Array.toList_map]; exact UVs.map F _⟩

theorem evCall_snd {env : Env} (E : EnvS P env) (L : Lay P) {M : Inj} {h : H} {w : World} {fr : Fr} {a : Act} (S : St P M h w) (F : Fit P M fr a) {c : Call} {ty : TypeId} {k : V → H → Ans} {r : V × H} (he : evCall P env c fr h k = some r) :
    ∃ v h1, k v h1 = some r ∧ OpS P (do let d ← resolve a.eval c ty; invoke d.target d.args) w (OpR P M h w v h1) := by
  unfold evCall at he
  cases hc : c.callee with
  | value f =>
    rw [hc] at he
    obtain ⟨v, h1, h2, h3⟩ := bnd2_some he
    refine ⟨v, h1, h3, ?_⟩
    simp only [resolve, hc]
    exact callV_snd E S h2 (evO_VU F f) (by rw [Array.toList_map]; exact UVs.map F _)
  | invoke r m => rw [hc] at he; cases he
  | builtin b =>
    rw [hc] at he
    simp only at he
    cases ht0 : c.argTypes[0]? with
    | none => rw [ht0] at he; cases he
    | some t0 =>
    rw [ht0] at he
    simp only at he
    obtain ⟨cs, hsem⟩ : ∃ cs, (do let d ← resolve a.eval c ty; invoke d.target d.args : Sem Next) = builtin b c.argTypes ty cs (c.args.map a.eval) := ⟨_, by simp only [resolve, hc, pure_bind, invoke]; rfl⟩
    rw [hsem]
    cases b <;> simp only [reduceCtorEq] at he
    case len =>
      cases hl : c.args.toList.map (evO fr) with
      | nil => rw [hl] at he; cases he
      | cons x l =>
        cases l with
        | cons _ _ => rw [hl] at he; cases he
        | nil =>
          rw [hl] at he
          obtain ⟨l', e1, x', l2, rfl, hx, e2⟩ := argv F hl
          simp only [UVs] at e2; subst e2
          rw [e1]
          obtain ⟨v, h1, h2⟩ := bnd_some he
          exact ⟨v, h, h2, OpS.val S (lenV_snd S h1 hx ht0)⟩
    case cap =>
      cases hl : c.args.toList.map (evO fr) with
      | nil => rw [hl] at he; cases he
      | cons x l =>
        cases l with
        | cons _ _ => rw [hl] at he; cases he
        | nil =>
          rw [hl] at he
          obtain ⟨l', e1, x', l2, rfl, hx, e2⟩ := argv F hl
          simp only [UVs] at e2; subst e2
          rw [e1]
          obtain ⟨v, h1, h2⟩ := bnd_some he
          exact ⟨v, h, h2, OpS.val S (capV_snd h1 hx ht0)⟩
    case max =>
      obtain ⟨v, h1, h2⟩ := bnd_some he
      obtain ⟨v', g1, g2⟩ := mx_snd (l' := c.args.map a.eval) h1 (by rw [Array.toList_map]; exact UVs.map F _) c.argTypes ty w
      exact ⟨v, h, h2, OpS.value g1 (OpR.pure S g2)⟩
    case min =>
      obtain ⟨v, h1, h2⟩ := bnd_some he
      obtain ⟨v', g1, g2⟩ := mn_snd (l' := c.args.map a.eval) h1 (by rw [Array.toList_map]; exact UVs.map F _) c.argTypes ty w
      exact ⟨v, h, h2, OpS.value g1 (OpR.pure S g2)⟩
    case append =>
      cases ht1 : c.argTypes[1]? with
      | none => rw [ht1] at he; cases he
      | some t1 =>
      rw [ht1] at he
      simp only at he
      have key : ∀ s x, c.args.toList.map (evO fr) = [s, x] → (lnK P t1 = .slc ∨ lnK P t1 = .str) → (match elT P t0 with
          | some (e, te, b) => bif (zeroV P e).isSome then bnd2 (app (some (e, te, b)) h s x) k else none
          | none => none) = some r → ∃ v h1, k v h1 = some r ∧ OpS P (builtin .append c.argTypes ty cs (c.args.map a.eval)) w (OpR P M h w v h1) := by
        intro s x hl hk he
        obtain ⟨l', e1, s', l2, rfl, hs, x', l3, rfl, hx, e2⟩ := argv F hl
        simp only [UVs] at e2; subst e2
        rw [e1]
        cases hel : elT P t0 with
        | none => rw [hel] at he; cases he
        | some q =>
          obtain ⟨e, te, bb⟩ := q
          rw [hel] at he
          replace he := cond_some he
          obtain ⟨hz, he⟩ := he
          obtain ⟨v, h1, h2, h3⟩ := bnd2_some he
          exact ⟨v, h1, h3, OpS.val2 (app_snd L S hel hk h2 hs hx ht0 ht1 (Option.isSome_iff_exists.1 hz))⟩
      have keyZ : ∀ s x, c.args.toList.map (evO fr) = [s, x] → (bif isIntT P t1 then (match elT P t0 with
          | some (e, te, b) => bnd2 (appZ (some (e, te, b)) (zeroV P e) h s x) k
          | none => none) else none) = some r → ∃ v h1, k v h1 = some r ∧ OpS P (builtin .append c.argTypes ty cs (c.args.map a.eval)) w (OpR P M h w v h1) := by
        intro s x hl he
        obtain ⟨hi, he⟩ := cond_some he
        obtain ⟨l', e1, s', l2, rfl, hs, x', l3, rfl, hx, e2⟩ := argv F hl
        simp only [UVs] at e2; subst e2
        rw [e1]
        cases hel : elT P t0 with
        | none => rw [hel] at he; cases he
        | some q =>
          obtain ⟨e, te, bb⟩ := q
          rw [hel] at he
          obtain ⟨v, h1, h2, h3⟩ := bnd2_some he
          exact ⟨v, h1, h3, OpS.val2 (appZ_snd L S hel hi h2 hs hx ht0 ht1)⟩
      cases hk : lnK P t1 <;> rw [hk] at he <;> try simp only [reduceCtorEq] at he
      case bad =>
        cases hl : c.args.toList.map (evO fr) with
        | nil => rw [hl] at he; cases he
        | cons s l =>
        cases l with
        | nil => rw [hl] at he; cases he
        | cons x l =>
        cases l with
        | cons _ _ => rw [hl] at he; cases he
        | nil =>
          rw [hl] at he
          exact keyZ s x hl he
      all_goals
        cases hl : c.args.toList.map (evO fr) with
        | nil => rw [hl] at he; cases he
        | cons s l =>
        cases l with
        | nil => rw [hl] at he; cases he
        | cons x l =>
        cases l with
        | cons _ _ => rw [hl] at he; cases he
        | nil =>
          rw [hl] at he
          exact key s x hl (by first | exact .inl hk | exact .inr hk | exact .inl rfl | exact .inr rfl) he
    case copy =>
      cases hl : c.args.toList.map (evO fr) with
      | nil => rw [hl] at he; cases he
      | cons s l =>
      cases l with
      | nil => rw [hl] at he; cases he
      | cons x l =>
      cases l with
      | cons _ _ => rw [hl] at he; cases he
      | nil =>
        rw [hl] at he
        obtain ⟨l', e1, s', l2, rfl, hs, x', l3, rfl, hx, e2⟩ := argv F hl
        simp only [UVs] at e2; subst e2
        rw [e1]
        cases hel : elT P t0 with
        | none => rw [hel] at he; cases he
        | some q =>
          obtain ⟨e, te, bb⟩ := q
          rw [hel] at he
          obtain ⟨v, h1, h2, h3⟩ := bnd2_some he
          obtain ⟨v', w', g1, g2, g3, g4⟩ := cpy_snd (ty := ty) (ats := c.argTypes) L S hel h2 hs hx ht0
          exact ⟨v, h1, h3, OpS.value g1 ⟨M, g2, g3, .inr g4⟩⟩

/-- one operation -/
theorem evOp_snd {env : Env} (E : EnvS P env) (L : Lay P) {M : Inj} {h : H} {w : World} {fr : Fr} {a : Act} (S : St P M h w) (F : Fit P M fr a) {o : Oper} {k : V → H → Ans} {r : V × H} (he : evOp P env o.op fr h k = some r) :
    ∃ v h1, k v h1 = some r ∧ OpS P (execOp a.eval o) w (OpR P M h w v h1) := by
  obtain ⟨dst, op, ty, pos, af, g⟩ := o
  unfold evOp at he
  cases op <;> simp only [reduceCtorEq] at he
  case move x => exact ⟨_, _, he, by simp only [execOp, OpS, Sem.run_pure]; exact OpR.pure S (evO_VU F x)⟩
  case assign x => exact ⟨_, _, he, by simp only [execOp, OpS, Sem.run_pure]; exact OpR.pure S (evO_VU F x)⟩
  case pick c x y =>
    obtain ⟨v, h1, h2⟩ := bnd_some he
    obtain ⟨v', g1, g2⟩ := pick_snd h1 (evO_VU F c) (evO_VU F x) (evO_VU F y) w
    refine ⟨v, h, h2, ?_⟩
    have := OpS.value g1 (OpR.pure S g2)
    simpa [execOp] using this
  case alloc e =>
    replace he := cond_none he
    obtain ⟨h0, he⟩ := he
    obtain ⟨v, h1, h2, h3⟩ := bnd2_some he
    exact ⟨v, h1, h3, OpS.val2 (al_snd L S (by rw [beq_eq] at h0; simpa using h0) h2)⟩
  case box e x =>
    replace he := cond_none he
    obtain ⟨h0, he⟩ := he
    obtain ⟨v, h1, h2, h3⟩ := bnd2_some he
    exact ⟨v, h1, h3, OpS.val2 (box_snd L S (by rw [beq_eq] at h0; simpa using h0) h2 (evO_VU F x))⟩
  case build t ps =>
    obtain ⟨v, h1, h2⟩ := bnd_some he
    exact ⟨v, h, h2, OpS.val S (build_snd L h1 (by rw [Array.toList_map]; exact PR.map F _) w)⟩
  case buildSlice t n ps =>
    cases hel : elT P t with
    | none => rw [hel] at he; cases he
    | some q =>
      obtain ⟨e, te, b⟩ := q
      rw [hel] at he
      replace he := cond_some he
      obtain ⟨hn, he⟩ := he
      obtain ⟨v, h1, h2, h3⟩ := bnd2_some he
      exact ⟨v, h1, h3, OpS.val2 (bslc_snd L S hel (by rw [ble_eq] at hn; simpa using hn) h2 (by rw [Array.toList_map]; exact PR.map F _))⟩
  case load t x =>
    cases ht : tgo P t with
    | none => rw [ht] at he; cases he
    | some tg =>
      rw [ht] at he
      obtain ⟨v, h1, h2⟩ := bnd_some he
      exact ⟨v, h, h2, OpS.val S (ld_snd L S ht h1 (evO_VU F x))⟩
  case store t x y =>
    cases ht : tgo P t with
    | none => rw [ht] at he; cases he
    | some tg =>
      rw [ht] at he
      obtain ⟨h1, h2, h3⟩ := bnd_some he
      obtain ⟨w', g1, g2, g3⟩ := st_snd L S ht h2 (evO_VU F x) (evO_VU F y)
      exact ⟨_, h1, h3, OpS.unit g1 ⟨M, g2, g3, .inr (by simp)⟩⟩
  case nilCheck x =>
    obtain ⟨v, h1, h2⟩ := bnd_some he
    obtain ⟨v', g1, g2⟩ := nilChk_snd h1 (evO_VU F x) w a.eval x rfl ty pos af g dst
    refine ⟨v, h, h2, ?_⟩
    unfold OpS; rw [g1]; exact OpR.pure S (.inr g2)
  case binOp op t x y b =>
    have two : ∀ neg, bnd (binE neg (eqk P eqD t) (evO fr x) (evO fr y)) (fun v => k v h) = some r → ∃ v h1, k v h1 = some r ∧ OpS P (execOp a.eval ⟨dst, .binOp (if neg then .neq else .eql) t x y b, ty, pos, af, g⟩) w (OpR P M h w v h1) := by
      intro neg he
      obtain ⟨v, h1, h2⟩ := bnd_some he
      exact ⟨v, h, h2, OpS.val S (binE_snd L h1 (evO_VU F x) (evO_VU F y))⟩
    have rest : (∀ a b, (eqGuard op t x y a b) = pure ()) → bnd (bin op (evO fr x) (evO fr y)) (fun v => k v h) = some r → ∃ v h1, k v h1 = some r ∧ OpS P (execOp a.eval ⟨dst, .binOp op t x y b, ty, pos, af, g⟩) w (OpR P M h w v h1) := by
      intro hg he
      obtain ⟨v, h1, h2⟩ := bnd_some he
      refine ⟨v, h, h2, OpS.val S ?_⟩
      obtain ⟨v', g1, g2⟩ := bin_snd (t := t) h1 (evO_VU F x) (evO_VU F y) w
      exact ⟨v', by simp only [hg, Sem.run_bind, Sem.run_pure, Result.andThen_ok, g1], g2⟩
    cases op <;> simp only at he <;> first
      | exact two false he
      | exact two true he
      | exact rest (fun a b => by simp [eqGuard]) he
  case unOp op t x =>
    obtain ⟨v, h1, h2⟩ := bnd_some he
    exact ⟨v, h, h2, OpS.val S (un_snd h1 (evO_VU F x) w)⟩
  case convert s d x =>
    obtain ⟨v, h1, h2, h3⟩ := bnd2_some he
    exact ⟨v, h1, h3, OpS.val2 (conv_snd L S h2 (evO_VU F x))⟩
  case makeFunc f x y =>
    obtain ⟨v, h1, h2⟩ := bnd_some he
    refine ⟨v, h, h2, OpS.val S ?_⟩
    cases f <;> simp only [mkFn, reduceCtorEq] at h1
    replace h1 := cond_some h1
    obtain ⟨hk, h1⟩ := h1
    simp only [Bool.and_eq_true] at hk
    injection h1 with h1; subst h1
    refine ⟨_, rfl, ?_⟩
    simp only [VR, R]
    exact ⟨(x.map a.eval).toList, (y.map a.eval).toList, rfl, (by rw [Array.toList_map]; exact (UVs.map F _).known hk.1), (by rw [Array.toList_map]; exact (UVs.map F _).known hk.2)⟩
  case makeMap t x =>
    cases x with
    | some x => cases he
    | none =>
      obtain ⟨v, h1, h2, h3⟩ := bnd2_some he
      exact ⟨v, h1, h3, OpS.val2 (mkMap_snd S h2)⟩
  case makeSlice t l c =>
    cases hel : elT P t with
    | none => rw [hel] at he; cases he
    | some q =>
      obtain ⟨e, te, b⟩ := q
      rw [hel] at he
      obtain ⟨v, h1, h2, h3⟩ := bnd2_some he
      exact ⟨v, h1, h3, OpS.val2 (mslc_snd L S hel h2 (evO_VU F l) (evO_VU F c))⟩
  case slice t x lo hi mx =>
    obtain ⟨v, h1, h2⟩ := bnd_some he
    exact ⟨v, h, h2, OpS.val S (slcV_snd L h1 (evO_VU F x) (OV.map F lo) (OV.map F hi) (OV.map F mx) w)⟩
  case fieldAddr s x f =>
    obtain ⟨v, h1, h2⟩ := bnd_some he
    exact ⟨v, h, h2, OpS.val S (fieldA_snd L h1 (evO_VU F x) w)⟩
  case field s x f =>
    obtain ⟨v, h1, h2⟩ := bnd_some he
    exact ⟨v, h, h2, OpS.val S (fieldV_snd L h1 (evO_VU F x) w)⟩
  case indexAddr t x i =>
    obtain ⟨v, h1, h2⟩ := bnd_some he
    exact ⟨v, h, h2, OpS.val S (indexA_snd L h1 (evO_VU F x) (evO_VU F i) w)⟩
  case index t x i =>
    obtain ⟨v, h1, h2⟩ := bnd_some he
    exact ⟨v, h, h2, OpS.val S (indexV_snd L h1 (evO_VU F x) (evO_VU F i) w)⟩
  case lookup t x i ok =>
    cases hm : mapT P t with
    | none => rw [hm] at he; cases he
    | some q =>
      obtain ⟨e, te⟩ := q
      rw [hm] at he
      obtain ⟨v, h1, h2⟩ := bnd_some he
      exact ⟨v, h, h2, OpS.val S (mlook_snd L S hm h1 (evO_VU F x) (evO_VU F i))⟩
  case mapUpdate t m i x =>
    cases hm : mapT P t with
    | none => rw [hm] at he; cases he
    | some q =>
      obtain ⟨e, te⟩ := q
      rw [hm] at he
      obtain ⟨h1, h2, h3⟩ := bnd_some he
      obtain ⟨w', g1, g2, g3⟩ := upd_snd L S hm h2 (evO_VU F m) (evO_VU F i) (evO_VU F x)
      exact ⟨_, h1, h3, OpS.unit g1 ⟨M, g2, g3, .inr (by simp)⟩⟩
  case extract x i =>
    obtain ⟨v, h1, h2⟩ := bnd_some he
    exact ⟨v, h, h2, OpS.val S (ext_snd h1 (evO_VU F x) w)⟩
  case call c =>
    obtain ⟨v, h1, h2, h3⟩ := evCall_snd E L S F (ty := ty) he
    exact ⟨v, h1, h2, h3⟩
end Go.AM

namespace Go.AM
open Go
variable {P : Program}

/-- a frame of the machine's and one of the model's -/
structure Fm (P : Program) (n : Nat) (D : List Deferred) (M : Inj) (fr : Fr) (a : Act) : Prop where
  fit : Fit P M fr a
  sz : n ≤ a.tmps.size
  df : a.defers = D

theorem Fm.mono {n : Nat} {D : List Deferred} {M M' : Inj} (h : M.le M') {fr : Fr} {a : Act} (F : Fm P n D M fr a) : Fm P n D M' fr a := ⟨F.fit.mono h, F.sz, F.df⟩

theorem Fm.put {n : Nat} {D : List Deferred} {M : Inj} {fr : Fr} {a : Act} (F : Fm P n D M fr a) {o : Oper} (hd : ∀ d, o.dst = some d → d < n) {v : V} {v' : Value} (hv : VU P M v v') : Fm P n D M (putD o fr v) (a.put o.dst v') := by
  cases hdst : o.dst with
  | none => simp only [putD, hdst, Act.put]; exact F
  | some d =>
    simp only [putD, hdst, Act.put]
    refine ⟨fun t => ?_, by simpa using F.sz, F.df⟩
    have hlt : d < a.tmps.size := Nat.lt_of_lt_of_le (hd d hdst) F.sz
    simp only [Fr.set, beq_eq]
    by_cases e : t = d
    · subst e
      simp [Array.getD, hlt]
      exact hv
    · have := F.fit t
      simp only [e, decide_false, cond_false]
      have h2 : (a.tmps.setIfInBounds d v')[t]? = a.tmps[t]? := Array.getElem?_setIfInBounds_ne (fun h => e h.symm)
      simpa [Array.getD_eq_getD_getElem?, h2] using this

theorem VR_ofbool {M : Inj} {v : V} {b : Bool} (h : VR P M v (.bool b)) : v = .bool b := by
  cases v <;> simp only [VR, R] at h <;> first
    | (injection h with h; injection h with h; subst h; rfl)
    | (exfalso; simp [undef] at h; done)
    | (exfalso; obtain ⟨_, h⟩ := h; simp at h; done)
    | skip
  all_goals (exfalso; simp at h)

theorem guard_snd {n : Nat} {D : List Deferred} {M : Inj} {fr : Fr} {a : Act} (F : Fm P n D M fr a) {ops : Array Oper} {j : Nat} : (∀ b, gval ops j fr = .bool b → yielded ops a.tmps j = some b) ∧ (gval ops j fr ≠ .unk → (∀ b, gval ops j fr ≠ .bool b) → yielded ops a.tmps j = none) := by
  unfold gval yielded slotOf
  cases ho : ops[j]? with
  | none => exact ⟨fun b h => by simp at h, fun _ _ => by simp⟩
  | some o =>
    simp only [Option.bind_some]
    cases hd : o.dst with
    | none => exact ⟨fun b h => by simp at h, fun _ _ => by simp⟩
    | some d =>
      simp only [Option.bind_some]
      have hv := F.fit d
      rw [Array.getD_eq_getD_getElem?] at hv
      constructor
      · intro b hb
        rw [hb] at hv
        have := hv.bool
        cases ht : a.tmps[d]? with
        | none => rw [ht] at this; simp [undef] at this
        | some x => rw [ht] at this; simp at this; subst this; rfl
      · intro h1 h2
        have hv := hv.known h1
        cases ht : a.tmps[d]? with
        | none => rfl
        | some x =>
          rw [ht] at hv
          simp only [Option.getD_some] at hv
          cases x <;> first
            | rfl
            | exact absurd (VR_ofbool hv) (h2 _)

/-- the state now, against the state then -/
structure Now (P : Program) (n : Nat) (D : List Deferred) (M0 : Inj) (h0 : H) (w0 : World) (fr : Fr) (h : H) (a : Act) (w : World) : Prop where
  ex : ∃ M, St P M h w ∧ Ext M0 h0 w0 M h w ∧ Fm P n D M fr a

def dstOk (n : Nat) (ops : Array Oper) : Bool := ops.all fun o => match o.dst with | some d => Nat.blt d n | none => true
theorem dstOk_get {n : Nat} {ops : Array Oper} (h : dstOk n ops = true) {i : Nat} {o : Oper} (ho : ops[i]? = some o) : ∀ d, o.dst = some d → d < n := by
  intro d hd
  unfold dstOk at h
  rw [Array.all_eq_true] at h
  obtain ⟨hi, rfl⟩ := Array.getElem?_eq_some_iff.1 ho
  have := h i hi
  rw [hd] at this
  simpa [blt_eq] using this

theorem evOper_snd {env : Env} (E : EnvS P env) (L : Lay P) {n : Nat} {D : List Deferred} {M0 : Inj} {h0 h : H} {w0 w : World} {fr : Fr} {a : Act} (N : Now P n D M0 h0 w0 fr h a w) {ops : Array Oper} (hok : dstOk n ops = true) {i : Nat} {k : Fr → H → Ans} {r : V × H}
    (he : evOper P env ops i fr h k = some r) {Q : Exit → Act → World → Prop} {K : Act → World → Prop} (hk : ∀ fr1 h1 a1 w1, k fr1 h1 = some r → Now P n D M0 h0 w0 fr1 h1 a1 w1 → K a1 w1) : wpOp P ops Q i K a w := by
  obtain ⟨M, S, X, F⟩ := N.ex
  unfold evOper at he
  cases ho : ops[i]? with
  | none => rw [ho] at he; cases he
  | some o =>
    rw [ho] at he
    have hd := dstOk_get hok ho
    simp only at he
    have put : ∀ v h1 v' w', OpR P M h w v h1 v' w' → Now P n D M0 h0 w0 (putD o fr v) h1 (a.put o.dst v') w' := by
      rintro v h1 v' w' ⟨M', s, x, u⟩
      exact ⟨M', s, X.trans x, (F.mono x.le).put hd u⟩
    cases hg : o.guard with
    | none =>
      rw [hg] at he
      simp only at he
      obtain ⟨v, h1, h2, h3⟩ := evOp_snd E L S F.fit he
      have hw : Region.wanted o (yielded ops a.tmps) = true := by simp [Region.wanted, hg]
      unfold wpOp
      rw [ho]
      simp only [hw, if_true]
      exact .inl (OpS.wp (OpS.mono h3 fun v' w' hr => hk _ _ _ _ h2 (put _ _ _ _ hr)))
    | some jw =>
      obtain ⟨j, wt⟩ := jw
      rw [hg] at he
      simp only at he
      obtain ⟨v, h1, h2, h3⟩ := bnd2_some he
      obtain ⟨g1, g2⟩ := guard_snd F (ops := ops) (j := j)
      unfold wpOp
      rw [ho]
      have skip : Region.wanted o (yielded ops a.tmps) = false → (V.undef = v ∧ h = h1) → (if Region.wanted o (yielded ops a.tmps) then o.wp P a w K Q ∨ (o.asks P a w ∧ LetsOut Q) else K (a.put o.dst undef) w) := by
        rintro hw ⟨rfl, rfl⟩
        rw [hw]
        exact hk _ _ _ _ h3 (put _ _ _ _ (OpR.pure S (.inr (by simp))))
      have other : gval ops j fr ≠ .unk → (∀ b, gval ops j fr ≠ .bool b) → some (V.undef, h) = some (v, h1) → (if Region.wanted o (yielded ops a.tmps) then o.wp P a w K Q ∨ (o.asks P a w ∧ LetsOut Q) else K (a.put o.dst undef) w) := by
        intro q1 q2 q3
        injection q3 with q3; injection q3 with q3 q4
        refine skip ?_ ⟨q3, q4⟩
        simp only [Region.wanted, hg, g2 q1 q2]
        simp
      unfold gd at h2
      split at h2
      · rename_i b hb
        have hy := g1 _ hb
        cases hbw : (b == wt) with
        | true =>
          rw [hbw] at h2
          simp only [cond_true] at h2
          obtain ⟨v2, h4, h5, h6⟩ := evOp_snd E L S F.fit h2
          injection h5 with h5; injection h5 with h5 h7; subst h5 h7
          have hw : Region.wanted o (yielded ops a.tmps) = true := by
            have : b = wt := by simpa using hbw
            simp [Region.wanted, hg, hy, this]
          simp only [hw, if_true]
          exact .inl (OpS.wp (OpS.mono h6 fun v' w' hr => hk _ _ _ _ h3 (put _ _ _ _ hr)))
        | false =>
          rw [hbw] at h2
          simp only [cond_false, Option.some.injEq, Prod.mk.injEq] at h2
          refine skip ?_ h2
          have : b ≠ wt := by simpa using hbw
          simp [Region.wanted, hg, hy, this]
      · cases h2
      · rename_i hn1 hn2
        exact other hn2 hn1 h2

theorem evOps_snd {env : Env} (E : EnvS P env) (L : Lay P) {n : Nat} {D : List Deferred} {M0 : Inj} {h0 : H} {w0 : World} {ops : Array Oper} (hok : dstOk n ops = true) {k : Fr → H → Ans} {r : V × H} {Q : Exit → Act → World → Prop}
    (hk : ∀ fr1 h1 a1 w1, k fr1 h1 = some r → Now P n D M0 h0 w0 fr1 h1 a1 w1 → Q .normal a1 w1) :
    ∀ {l : List Nat} {fr : Fr} {h : H} {a : Act} {w : World}, Now P n D M0 h0 w0 fr h a w → evOps P env ops l fr h k = some r → wpOps P ops Q l a w
  | [], fr, h, a, w, N, he => hk _ _ _ _ he N
  | i :: l, fr, h, a, w, N, he => by
    rw [wpOps_cons]
    exact evOper_snd E L N hok he fun fr1 h1 a1 w1 h2 N1 => evOps_snd E L hok hk N1 h2

/-- regions that the machine runs in one order -/
def RegS (P : Program) (env : Env) (n : Nat) (ops : Array Oper) (l : List It) : Prop :=
  ∀ {D : List Deferred} {M0 : Inj} {h0 : H} {w0 : World} {k : Fr → H → Ans} {r : V × H} {Q : Exit → Act → World → Prop}, (∀ fr1 h1 a1 w1, k fr1 h1 = some r → Now P n D M0 h0 w0 fr1 h1 a1 w1 → Q .normal a1 w1) →
    ∀ {id : Nat} {fr : Fr} {h : H} {a : Act} {w : World}, Now P n D M0 h0 w0 fr h a w → evIts P env ops l fr h k = some r → (Code.region id ops true).wp P Q a w

/-! control -/
def Ex.to : Ex → Exit | .normal => .normal | .exit i => .exit i | .ret => .ret

def LoopWp (P : Program) (c : Code) (Q : Exit → Act → World → Prop) (a : Act) (w : World) : Prop :=
  ∀ (b : Frame) (k : List Item) (cs : List Frame), ∃ e a' w', Q e a' w' ∧ Arrives P (lone (b.at a (.code c :: .inLoop c :: k)) cs w) b k cs e a' w'

theorem LoopWp.of {c : Code} {Q : Exit → Act → World → Prop} {a : Act} {w : World} (h : c.wp P (Exit.then (LoopWp P c Q) Q) a w) : LoopWp P c Q a w := by
  intro b k cs
  obtain ⟨e, a₁, w₁, hq, harr⟩ := h b (.inLoop c :: k) cs
  cases e with
  | normal =>
    obtain ⟨e₂, a₂, w₂, hq₂, harr₂⟩ := hq b k cs
    exact ⟨e₂, a₂, w₂, hq₂, .of_steps (Steps.trans harr (.one step_inLoop)) harr₂⟩
  | exit id => exact ⟨_, a₁, w₁, hq, .pass (x := .inLoop c) rfl (fun _ _ => .inl (by simp)) harr⟩
  | goto l => exact ⟨_, a₁, w₁, hq, .pass (x := .inLoop c) rfl (fun _ _ => .inl (by simp)) harr⟩
  | ret => exact ⟨_, a₁, w₁, hq, .pass (x := .inLoop c) rfl (fun _ _ => .inl (by simp)) harr⟩
  | panic ch => exact ⟨_, a₁, w₁, hq, .pass (x := .inLoop c) rfl (fun _ _ => .inl (by simp)) harr⟩
  | outgrown => exact ⟨_, a₁, w₁, hq, .pass (x := .inLoop c) rfl (fun _ _ => .inl (by simp)) harr⟩
theorem LoopWp.wp {c : Code} {Q : Exit → Act → World → Prop} {a : Act} {w : World} (h : LoopWp P c Q a w) : (Code.loop c).wp P Q a w := by
  intro b k cs
  obtain ⟨e, a', w', hq, harr⟩ := h b k cs
  exact ⟨e, a', w', hq, .of_steps (.one step_loop) harr⟩
end Go.AM

namespace Go.AM
open Go
variable {P : Program}

def codeOk (n : Nat) (rk : Array Oper → List It → Bool) : An → Code → Bool
  | .join _ _ a, c => codeOk n rk a c
  | .n2 a b, .seq x y => codeOk n rk a x && codeOk n rk b y
  | .n2 a b, .cond _ x y => codeOk n rk a x && codeOk n rk b y
  | .n1 a, .block _ x => codeOk n rk a x
  | .n1 a, .scope x => codeOk n rk a x
  | .loop _ _ a, .loop x => codeOk n rk a x
  | .leaf, .region _ ops false => dstOk n ops
  | .leaf, .region _ _ true => false
  | .leaf, _ => true
  | .reg l, .region _ ops true => dstOk n ops && rk ops l
  | _, _ => false

theorem mkFr_fit {M : Inj} {a : Act} {fr : Fr} (F : Fit P M fr a) : ∀ live : List Nat, Fit P M (mkFr live (live.map fr)) a
  | [] => fun t => .inl rfl
  | l :: ls => fun t => by
    simp only [List.map_cons, mkFr, beq_eq]
    by_cases e : t = l
    · subst e; have := F t; simpa using this
    · simp only [e, decide_false, cond_false]; exact mkFr_fit F ls t

section
variable (P) (env : Env) (n : Nat) (rk : Array Oper → List It → Bool) (D : List Deferred) (M0 : Inj) (h0 : H) (w0 : World) (all : List Piece) (Qf : Exit → Act → World → Prop)

def QOf : Cx → Exit → Act → World → Prop
  | .fin => Qf
  | .seq _ c κ => Exit.then (c.wp P (QOf κ)) (QOf κ)
  | .blk id κ => Exit.inBlock id (QOf κ)
  | .lp _ _ _ c κ => Exit.then (LoopWp P c (QOf κ)) (QOf κ)

def Sub (a : An) (c : Code) (κ : Cx) : Prop := ∀ p ∈ pieces a c κ, p ∈ all
def Good : Cx → Prop
  | .fin => True
  | .seq b y κ => Sub all b y κ ∧ codeOk n rk b y = true ∧ Good κ
  | .blk _ κ => Good κ
  | .lp id live a c κ => ⟨id, live, a, c, .lp id live a c κ⟩ ∈ all ∧ Sub all a c (.lp id live a c κ) ∧ codeOk n rk a c = true ∧ Good κ
end

theorem QOf_goto {Qf : Exit → Act → World → Prop} (hq : ∀ l a w, ¬ Qf (.goto l) a w) : ∀ (κ : Cx) (l : Nat) (a : Act) (w : World), ¬ QOf P Qf κ (.goto l) a w
  | .fin, l, a, w => hq l a w
  | .seq _ _ κ, l, a, w => by simp only [QOf, Exit.then]; exact QOf_goto hq κ l a w
  | .blk _ κ, l, a, w => by simp only [QOf, Exit.inBlock]; exact QOf_goto hq κ l a w
  | .lp _ _ _ _ κ, l, a, w => by simp only [QOf, Exit.then]; exact QOf_goto hq κ l a w

theorem pieces_good {n : Nat} {rk : Array Oper → List It → Bool} {all : List Piece} : ∀ (a : An) (c : Code) (κ : Cx), Sub all a c κ → codeOk n rk a c = true → Good n rk all κ →
    ∀ p ∈ pieces a c κ, Sub all p.a p.c p.κ ∧ codeOk n rk p.a p.c = true ∧ Good n rk all p.κ := by
  intro a
  induction a with
  | leaf => intro c κ _ _ _ p hp; cases c <;> simp [pieces] at hp
  | reg l => intro c κ _ _ _ p hp; cases c <;> simp [pieces] at hp
  | n1 a ih =>
    intro c κ hs ho hg p hp
    cases c <;> simp only [pieces, List.not_mem_nil] at hp
    · simp only [codeOk] at ho; simp only [Sub, pieces] at hs
      exact ih _ _ hs ho hg p hp
    · simp only [codeOk] at ho; simp only [Sub, pieces] at hs
      exact ih _ _ hs ho hg p hp
  | n2 a b iha ihb =>
    intro c κ hs ho hg p hp
    cases c <;> simp only [pieces, List.not_mem_nil, List.mem_append] at hp
    · simp only [codeOk, Bool.and_eq_true] at ho; simp only [Sub, pieces, List.mem_append] at hs
      rcases hp with hp | hp
      · exact iha _ _ (fun q hq => hs q (.inl hq)) ho.1 ⟨fun q hq => hs q (.inr hq), ho.2, hg⟩ p hp
      · exact ihb _ _ (fun q hq => hs q (.inr hq)) ho.2 hg p hp
    · simp only [codeOk, Bool.and_eq_true] at ho; simp only [Sub, pieces, List.mem_append] at hs
      rcases hp with hp | hp
      · exact iha _ _ (fun q hq => hs q (.inl hq)) ho.1 hg p hp
      · exact ihb _ _ (fun q hq => hs q (.inr hq)) ho.2 hg p hp
  | loop id live a ih =>
    intro c κ hs ho hg p hp
    cases c <;> simp only [pieces, List.not_mem_nil, List.mem_cons] at hp
    simp only [codeOk] at ho; simp only [Sub, pieces, List.mem_cons] at hs
    have hs' : Sub all a _ (.lp id live a _ κ) := fun q hq => hs q (.inr hq)
    have hg' : Good n rk all (.lp id live a _ κ) := ⟨hs _ (.inl rfl), hs', ho, hg⟩
    rcases hp with rfl | hp
    · exact ⟨hs', ho, hg'⟩
    · exact ih _ _ hs' ho hg' p hp
  | join id live a ih =>
    intro c κ hs ho hg p hp
    simp only [pieces, List.mem_cons] at hp
    simp only [codeOk] at ho; simp only [Sub, pieces, List.mem_cons] at hs
    have hs' : Sub all a c κ := fun q hq => hs q (.inr hq)
    rcases hp with rfl | hp
    · exact ⟨hs', ho, hg⟩
    · exact ih _ _ hs' ho hg p hp

def idsOk : List Piece → Bool
  | [] => true
  | p :: r => r.all (fun q => !Nat.beq q.id p.id) && idsOk r
theorem findP_mem : ∀ {l : List Piece}, idsOk l = true → ∀ p ∈ l, findP p.id l = some p
  | [], _, p, hp => by cases hp
  | q :: r, h, p, hp => by
    simp only [idsOk, Bool.and_eq_true, List.all_eq_true] at h
    simp only [findP, beq_eq]
    rcases List.mem_cons.1 hp with rfl | hp
    · simp
    · have := h.1 p hp
      rw [beq_eq] at this
      have hne : q.id ≠ p.id := fun e => by simp [e] at this
      simp only [hne, decide_false, cond_false]
      exact findP_mem h.2 p hp

/-- what a continuation must answer -/
def KS (P : Program) (n : Nat) (D : List Deferred) (M0 : Inj) (h0 : H) (w0 : World) (r : V × H) (k : K) (Q : Exit → Act → World → Prop) : Prop :=
  ∀ e fr h a w, k e fr h = some r → Now P n D M0 h0 w0 fr h a w → Q e.to a w

theorem Now.mkFr {n : Nat} {D : List Deferred} {M0 : Inj} {h0 h : H} {w0 w : World} {fr : Fr} {a : Act} (N : Now P n D M0 h0 w0 fr h a w) (live : List Nat) : Now P n D M0 h0 w0 (mkFr live (live.map fr)) h a w := by
  obtain ⟨M, S, X, F⟩ := N.ex
  exact ⟨M, S, X, mkFr_fit F.fit live, F.sz, F.df⟩

theorem code_snd {env : Env} (E : EnvS P env) (L : Lay P) {n : Nat} {rk : Array Oper → List It → Bool} (hrk : ∀ ops l, dstOk n ops = true → rk ops l = true → RegS P env n ops l) {D : List Deferred} {M0 : Inj} {h0 : H} {w0 : World} {r : V × H}
    {Qf : Exit → Act → World → Prop} (hqf : ∀ l a w, ¬ Qf (.goto l) a w) {g : Nat} {an : An} (hids : idsOk (pieces an (bodyOf P g) .fin) = true) (hok : codeOk n rk an (bodyOf P g) = true) (hf : KS P n D M0 h0 w0 r (kFin P (ressOf P g)) Qf) :
    ∀ fuel : Nat, (∀ (a : An) (c : Code) (κ : Cx), Sub (pieces an (bodyOf P g) .fin) a c κ → codeOk n rk a c = true → Good n rk (pieces an (bodyOf P g) .fin) κ →
      ∀ fr h s w, Now P n D M0 h0 w0 fr h s w → evC P env (evJ P env g an fuel) a c fr h (kOf P env (evJ P env g an fuel) (kFin P (ressOf P g)) κ) = some r → c.wp P (QOf P Qf κ) s w) ∧
      (∀ κ, Good n rk (pieces an (bodyOf P g) .fin) κ → KS P n D M0 h0 w0 r (kOf P env (evJ P env g an fuel) (kFin P (ressOf P g)) κ) (QOf P Qf κ)) := by
  have hall := pieces_good (n := n) (rk := rk) (all := pieces an (bodyOf P g) .fin) an (bodyOf P g) .fin (fun p hp => hp) hok trivial
  intro fuel
  induction fuel using Nat.strongRecOn with
  | _ fuel ih =>
  -- a jump to a piece
  have jump : ∀ p ∈ pieces an (bodyOf P g) .fin, ∀ fr h s w, Now P n D M0 h0 w0 fr h s w → evJ P env g an fuel p.id (p.live.map fr) h = some r → p.c.wp P (QOf P Qf p.κ) s w := by
    intro p hp fr h s w N he
    cases fuel with
    | zero => cases he
    | succ m =>
      simp only [evJ, evP, findP_mem hids p hp] at he
      obtain ⟨g1, g2, g3⟩ := hall p hp
      exact (ih m (Nat.lt_succ_self m)).1 p.a p.c p.κ g1 g2 g3 _ h s w (N.mkFr p.live) he
  -- contexts first need codes, codes need contexts: by the codes' and contexts' own induction
  have A : ∀ (a : An) (c : Code) (κ : Cx), Sub (pieces an (bodyOf P g) .fin) a c κ → codeOk n rk a c = true → Good n rk (pieces an (bodyOf P g) .fin) κ →
      KS P n D M0 h0 w0 r (kOf P env (evJ P env g an fuel) (kFin P (ressOf P g)) κ) (QOf P Qf κ) →
      ∀ fr h s w, Now P n D M0 h0 w0 fr h s w → evC P env (evJ P env g an fuel) a c fr h (kOf P env (evJ P env g an fuel) (kFin P (ressOf P g)) κ) = some r → c.wp P (QOf P Qf κ) s w := by
    intro a
    induction a with
    | leaf =>
      intro c κ hs ho hg hk fr h s w N he
      cases c <;> try simp only [evC, reduceCtorEq] at he
      case skip => exact wp_skip (hk _ _ _ _ _ he N)
      case label => exact wp_label (hk _ _ _ _ _ he N)
      case exit id => exact wp_exit (hk _ _ _ _ _ he N)
      case ret => exact wp_ret (hk _ _ _ _ _ he N)
      case region id ops dr =>
        cases dr with
        | true => cases ho
        | false =>
          simp only [codeOk] at ho
          simp only [evC] at he
          exact wp_region (evOps_snd E L ho (fun fr1 h1 a1 w1 g1 g2 => hk .normal _ _ _ _ g1 g2) N he)
    | reg l =>
      intro c κ hs ho hg hk fr h s w N he
      cases c <;> try simp only [codeOk, Bool.false_eq_true] at ho
      rename_i id ops dr
      cases dr with
      | false => simp [codeOk] at ho
      | true =>
        simp only [codeOk, Bool.and_eq_true] at ho
        simp only [evC] at he
        exact hrk ops l ho.1 ho.2 (fun fr1 h1 a1 w1 g1 g2 => hk .normal _ _ _ _ g1 g2) N he
    | n1 a iha =>
      intro c κ hs ho hg hk fr h s w N he
      cases c <;> simp only [codeOk, Bool.false_eq_true] at ho
      case block id x =>
        simp only [evC] at he
        refine wp_block (iha x (.blk id κ) hs ho hg ?_ fr h s w N he)
        intro e fr1 h1 a1 w1 g1 g2
        cases e with
        | normal => exact hk .normal _ _ _ _ g1 g2
        | ret => exact hk .ret _ _ _ _ g1 g2
        | exit i =>
          simp only [kOf, kBlock, beq_eq] at g1
          simp only [QOf, Ex.to, Exit.inBlock]
          by_cases e : i = id
          · subst e
            simp only [decide_true, cond_true] at g1
            simp only [if_true]
            exact hk .normal _ _ _ _ g1 g2
          · simp only [e, decide_false, cond_false] at g1
            simp only [e, if_false]
            exact hk (.exit i) _ _ _ _ g1 g2
      case scope x =>
        simp only [evC] at he
        refine wp_scope_straight (wp_mono (iha x κ hs ho hg hk fr h s w N he) ?_)
        intro e a1 w1 hq
        cases e <;> first
          | exact hq
          | exact (QOf_goto hqf κ _ _ _ hq).elim
    | n2 a b iha ihb =>
      intro c κ hs ho hg hk fr h s w N he
      cases c <;> simp only [codeOk, Bool.and_eq_true, Bool.false_eq_true] at ho
      case seq x y =>
        simp only [evC] at he
        simp only [Sub, pieces, List.mem_append] at hs
        have hsb : Sub (pieces an (bodyOf P g) .fin) b y κ := fun q hq => hs q (.inr hq)
        refine wp_seq (iha x (.seq b y κ) (fun q hq => hs q (.inl hq)) ho.1 ⟨hsb, ho.2, hg⟩ ?_ fr h s w N he)
        intro e fr1 h1 a1 w1 g1 g2
        cases e with
        | normal => exact ihb y κ hsb ho.2 hg hk fr1 h1 a1 w1 g2 g1
        | ret => exact hk .ret _ _ _ _ g1 g2
        | exit i => exact hk (.exit i) _ _ _ _ g1 g2
      case cond c0 x y =>
        simp only [evC] at he
        simp only [Sub, pieces, List.mem_append] at hs
        obtain ⟨M, S, X, F⟩ := N.ex
        unfold cnd at he
        split at he
        · rename_i t ht
          have hv := evO_VU F.fit c0
          rw [ht] at hv
          have hv := hv.bool
          cases t with
          | true => exact wp_cond_true hv (iha x κ (fun q hq => hs q (.inl hq)) ho.1 hg hk fr h s w N he)
          | false => exact wp_cond_false hv (ihb y κ (fun q hq => hs q (.inr hq)) ho.2 hg hk fr h s w N he)
        · cases he
    | loop id live a iha =>
      intro c κ hs ho hg hk fr h s w N he
      cases c <;> simp only [codeOk, Bool.false_eq_true] at ho
      rename_i x
      simp only [evC] at he
      simp only [Sub, pieces, List.mem_cons] at hs
      have := jump ⟨id, live, a, x, .lp id live a x κ⟩ (hs _ (.inl rfl)) fr h s w N he
      exact LoopWp.wp (LoopWp.of this)
    | join id live a iha =>
      intro c κ hs ho hg hk fr h s w N he
      simp only [evC] at he
      simp only [Sub, pieces, List.mem_cons] at hs
      exact jump ⟨id, live, a, c, κ⟩ (hs _ (.inl rfl)) fr h s w N he
  have B : ∀ κ, Good n rk (pieces an (bodyOf P g) .fin) κ → KS P n D M0 h0 w0 r (kOf P env (evJ P env g an fuel) (kFin P (ressOf P g)) κ) (QOf P Qf κ) := by
    intro κ
    induction κ with
    | fin => intro _; exact hf
    | seq b y κ ihk =>
      intro hg e fr1 h1 a1 w1 g1 g2
      obtain ⟨q1, q2, q3⟩ := hg
      cases e with
      | normal => exact A b y κ q1 q2 q3 (ihk q3) fr1 h1 a1 w1 g2 g1
      | ret => exact ihk q3 .ret _ _ _ _ g1 g2
      | exit i => exact ihk q3 (.exit i) _ _ _ _ g1 g2
    | blk id κ ihk =>
      intro hg e fr1 h1 a1 w1 g1 g2
      cases e with
      | normal => exact ihk hg .normal _ _ _ _ g1 g2
      | ret => exact ihk hg .ret _ _ _ _ g1 g2
      | exit i =>
        simp only [kOf, kBlock, beq_eq] at g1
        simp only [QOf, Ex.to, Exit.inBlock]
        by_cases e : i = id
        · subst e
          simp only [decide_true, cond_true] at g1
          simp only [if_true]
          exact ihk hg .normal _ _ _ _ g1 g2
        · simp only [e, decide_false, cond_false] at g1
          simp only [e, if_false]
          exact ihk hg (.exit i) _ _ _ _ g1 g2
    | lp id live a c κ ihk =>
      intro hg e fr1 h1 a1 w1 g1 g2
      obtain ⟨q0, q1, q2, q3⟩ := hg
      cases e with
      | normal => exact LoopWp.of (jump ⟨id, live, a, c, .lp id live a c κ⟩ q0 fr1 h1 a1 w1 g2 g1)
      | ret => exact ihk q3 .ret _ _ _ _ g1 g2
      | exit i => exact ihk q3 (.exit i) _ _ _ _ g1 g2
  exact ⟨fun a c κ q1 q2 q3 => A a c κ q1 q2 q3 (B κ q3), B⟩
end Go.AM

namespace Go.AM
open Go
variable {P : Program}

theorem resK_snd (L : Lay P) {n : Nat} {D : List Deferred} {M : Inj} {fr : Fr} {h : H} {a : Act} {w : World} (S : St P M h w) (F : Fm P n D M fr a) {r : V × H} {k : List V → Ans} : ∀ (rs : List ResultVar) (acc : List V), resK P fr h rs acc k = some r →
    ∃ vs vs', k (acc ++ vs) = some r ∧ UVs P M vs vs' ∧ (rs.mapM fun (x : ResultVar) => match x with | .tmp t => (pure (a.tmps.getD t undef) : Sem Value) | .cell c t => do loadVar t (← asAddr (a.tmps.getD c undef))).run P w = .ok vs' w
  | [], acc, he => ⟨[], [], by simpa [resK] using he, rfl, by simp⟩
  | .tmp t :: rs, acc, he => by
    simp only [resK] at he
    obtain ⟨vs, vs', h1, h2, h3⟩ := resK_snd L S F rs _ he
    refine ⟨fr t :: vs, a.tmps.getD t undef :: vs', by simpa using h1, ⟨_, _, rfl, F.fit t, h2⟩, ?_⟩
    simp only [List.mapM_cons, Sem.run_bind, Sem.run_pure, Result.andThen_ok, h3]
  | .cell c t :: rs, acc, he => by
    simp only [resK] at he
    cases ht : tgo P t with
    | none => rw [ht] at he; cases he
    | some tg =>
      rw [ht] at he
      obtain ⟨v, h1, h2⟩ := bnd_some he
      obtain ⟨v', g1, g2⟩ := ld_snd L S ht h1 (F.fit c)
      obtain ⟨vs, vs', k1, k2, k3⟩ := resK_snd L S F rs _ h2
      refine ⟨v :: vs, v' :: vs', by simpa using k1, ⟨_, _, rfl, .inr g2, k2⟩, ?_⟩
      have g1 : (do loadVar t (← asAddr (a.tmps.getD c undef)) : Sem Value).run P w = .ok v' w := by
        have hp : ∃ x, a.tmps.getD c undef = .pointer (some x) := by
          have hv := F.fit c
          unfold ld at h1
          split at h1 <;> try contradiction
          rename_i tg' b p hc
          rw [hc] at hv
          have hv := hv.known (by simp)
          simp only [VR, R] at hv
          obtain ⟨_, _, _, _, _, _, _, _, _, _, _, _, e⟩ := hv
          injection e with e
          exact ⟨_, e⟩
        obtain ⟨x, hx⟩ := hp
        rw [hx] at g1 ⊢
        simpa [Instr.loadAt, Instr.sureAddr, asAddr] using g1
      rw [List.mapM_cons, Sem.run_bind]
      show Result.andThen ((do loadVar t (← asAddr (a.tmps.getD c undef)) : Sem Value).run P w) _ = _
      rw [g1]
      simp only [Result.andThen_ok, Sem.run_bind, k3, Sem.run_pure]

theorem fin_snd (L : Lay P) {n : Nat} {D : List Deferred} {M : Inj} {fr : Fr} {h : H} {a : Act} {w : World} (S : St P M h w) (F : Fm P n D M fr a) {fn : Func} {r : V × H} (he : resK P fr h fn.results.toList [] (retV h) = some r) :
    ∃ v', (results fn a.tmps).run P w = .ok v' w ∧ VU P M r.1 v' ∧ r.2 = h := by
  obtain ⟨vs, vs', h1, h2, h3⟩ := resK_snd L S F _ _ he
  rw [List.nil_append] at h1
  have h4 : (fn.results.mapM fun (x : ResultVar) => match x with | .tmp t => (pure (a.tmps.getD t undef) : Sem Value) | .cell c t => do loadVar t (← asAddr (a.tmps.getD c undef))).run P w = .ok vs'.toArray w := by
    rw [Array.mapM_eq_mapM_toList, map_eq_pure_bind]
    simp only [Sem.run_bind]
    rw [h3]
    simp
  have hres : (results fn a.tmps).run P w = .ok (if h : vs'.toArray.size = 1 then vs'.toArray[0] else .tuple vs'.toArray) w := by
    unfold results
    rw [Sem.run_bind]
    erw [h4]
    simp
  refine ⟨_, hres, ?_⟩
  cases vs with
  | nil =>
    simp only [UVs] at h2; subst h2
    simp only [retV, known, List.all_nil, cond_true, Option.some.injEq] at h1; subst h1
    refine ⟨.inr ?_, rfl⟩
    simp [VR, R, RVs]
  | cons v vs =>
    obtain ⟨v', c', rfl, hv, h2⟩ := h2
    cases vs with
    | nil =>
      simp only [UVs] at h2; subst h2
      simp only [retV, Option.some.injEq] at h1; subst h1
      exact ⟨by simpa using hv, rfl⟩
    | cons u vs =>
      obtain ⟨u', c'', rfl, hu, h2⟩ := h2
      simp only [retV] at h1
      replace h1 := cond_some h1
      obtain ⟨hk, h1⟩ := h1
      simp only [Option.some.injEq] at h1; subst h1
      refine ⟨.inr ?_, rfl⟩
      have : UVs P M (v :: u :: vs) (v' :: u' :: c'') := ⟨v', _, rfl, hv, u', _, rfl, hu, h2⟩
      simp only [VR, R]
      exact ⟨v' :: u' :: c'', by simp, this.known hk⟩

def fnOk (P : Program) (rk : Nat → Array Oper → List It → Bool) (g : Nat) (an : An) : Bool :=
  match P.funcs[g]? with
  | some fn => fn.body.isSome && fn.name != "runtime.NumGoroutine" && idsOk (pieces an (bodyOf P g) .fin) && codeOk fn.ntmps (rk fn.ntmps) an (bodyOf P g)
  | none => false

theorem UVs.at {M : Inj} : ∀ {vs : List V} {vs' : List Value}, UVs P M vs vs' → ∀ i : Nat, (∃ v v', vs[i]? = some v ∧ vs'[i]? = some v' ∧ VU P M v v') ∨ (vs[i]? = none ∧ vs'[i]? = none)
  | [], _, h, i => by simp only [AM.UVs] at h; subst h; exact .inr ⟨rfl, rfl⟩
  | v :: vs, _, ⟨v', c', e, h1, h2⟩, i => by
    subst e
    cases i with
    | zero => exact .inl ⟨v, v', rfl, rfl, h1⟩
    | succ i => simpa using UVs.at h2 i

theorem init_fit {M : Inj} {args : List V} {args' : List Value} (U : UVs P M args args') (m : Nat) : Fit P M (initFr args) { tmps := args'.toArray ++ Array.replicate m undef, defers := [] } := by
  intro t
  simp only [initFr, Array.getD_eq_getD_getElem?]
  rcases UVs.at U t with ⟨v, v', h1, h2, h3⟩ | ⟨h1, h2⟩
  · have hlt : t < args'.toArray.size := by simpa using (List.getElem?_eq_some_iff.1 h2).1
    rw [h1, Array.getElem?_append_left hlt]
    simp [h2, h3]
  · rw [h1]
    have hle : args'.length ≤ t := List.getElem?_eq_none_iff.1 h2
    rw [Array.getElem?_append_right (by simpa using hle), Array.getElem?_replicate]
    refine .inr ?_
    simp only [VR_undef, List.size_toArray]
    by_cases hq : t - args'.length < m <;> simp [hq]

theorem fn_wp {env : Env} (E : EnvS P env) (L : Lay P) {rk : Nat → Array Oper → List It → Bool} (hrk : ∀ n env ops l, EnvS P env → dstOk n ops = true → rk n ops l = true → RegS P env n ops l) {g : Nat} {an : An} (hok : fnOk P rk g an = true) {fuel : Nat} {args : List V} {h : H} {v : V} {h' : H}
    (he : evF P env (evJ P env g an fuel) g an args h = some (v, h')) : ∃ fn c, P.funcs[g]? = some fn ∧ fn.body = some c ∧ fn.name ≠ "runtime.NumGoroutine" ∧
    ∀ M w args', St P M h w → UVs P M args args' → c.wp P (bodyPost P fn fun e w' => ∃ v', e = .returned v' ∧ OpR P M h w v h' v' w') { tmps := args'.toArray ++ Array.replicate (fn.ntmps - args'.toArray.size) undef, defers := [] } w := by
  unfold fnOk at hok
  cases hfn : P.funcs[g]? with
  | none => rw [hfn] at hok; cases hok
  | some fn =>
  rw [hfn] at hok
  simp only [Bool.and_eq_true] at hok
  obtain ⟨⟨⟨hb, hn⟩, hids⟩, hcode⟩ := hok
  obtain ⟨c, hc⟩ := Option.isSome_iff_exists.1 hb
  refine ⟨fn, c, rfl, hc, by simpa using hn, fun M w args' S U => ?_⟩
  have hbody : bodyOf P g = c := by simp [bodyOf, hfn, hc]
  have hres : ressOf P g = fn.results.toList := by simp [ressOf, hfn]
  let Qf : Exit → Act → World → Prop := fun e a w' => bodyPost P fn (fun e w' => ∃ v', e = .returned v' ∧ OpR P M h w v h' v' w') e a w'
  have hf : KS P fn.ntmps [] M h w (v, h') (kFin P (ressOf P g)) Qf := by
    intro e fr1 h1 a1 w1 g1 N
    obtain ⟨M1, S1, X1, F1⟩ := N.ex
    rw [hres] at g1
    have fin : resK P fr1 h1 fn.results.toList [] (retV h1) = some (v, h') → a1.defers = [] ∧ ∃ v', (results fn a1.tmps).run P w1 = .ok v' w1 ∧ ∃ v2, Ending.returned v' = .returned v2 ∧ OpR P M h w v h' v2 w1 := by
      intro g1
      obtain ⟨v', q1, q2, q3⟩ := fin_snd L S1 F1 g1
      simp only at q2 q3
      subst q3
      exact ⟨F1.df, v', q1, v', rfl, M1, S1, X1, q2⟩
    cases e with
    | normal => exact fin g1
    | ret => exact fin g1
    | exit i => cases g1
  have main := code_snd E L (fun ops l q1 q2 => hrk fn.ntmps env ops l E q1 q2) (Qf := Qf) (fun l a w q => q) hids hcode hf fuel
  have := main.1 an (bodyOf P g) .fin (fun p hp => hp) hcode trivial (initFr args) h { tmps := args'.toArray ++ Array.replicate (fn.ntmps - args'.toArray.size) undef, defers := [] } w
    ⟨M, S, Ext.refl _ _ _, init_fit U _, by simp; omega, rfl⟩ he
  rw [hbody] at this
  exact this

theorem fn_snd {env : Env} (E : EnvS P env) (L : Lay P) {rk : Nat → Array Oper → List It → Bool} (hrk : ∀ n env ops l, EnvS P env → dstOk n ops = true → rk n ops l = true → RegS P env n ops l) {g : Nat} {an : An} (hok : fnOk P rk g an = true) {fuel : Nat} {args : List V} {h : H} {v : V} {h' : H}
    (he : evF P env (evJ P env g an fuel) g an args h = some (v, h')) : (∃ fn, P.funcs[g]? = some fn ∧ fn.name ≠ "runtime.NumGoroutine" ∧ fn.body.isSome) ∧
    ∀ M w args', St P M h w → UVs P M args args' → Calls P g args'.toArray w fun e w' => ∃ v', e = .returned v' ∧ OpR P M h w v h' v' w' := by
  obtain ⟨fn, c, h1, h2, h3, h4⟩ := fn_wp E L hrk hok he
  exact ⟨⟨fn, h1, h3, by rw [h2]; rfl⟩, fun M w args' S U => calls_of_wp h1 h2 (h4 M w args' S U)⟩

end Go.AM
