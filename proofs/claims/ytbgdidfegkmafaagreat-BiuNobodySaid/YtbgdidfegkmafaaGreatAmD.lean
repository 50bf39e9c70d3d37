/- what is handed to a call, seen by the machine; the table of types; closed calls; texts of functions -/
import Derived.Test.YtbgdidfegkmafaaGreatAmC
import Derived.ChangeArms
import Derived.SizedLaws
import Derived.Below
import Derived.Test.YtbgdidfegkmafaaGreatAmA
namespace Go.AM
open Go
variable {P : Program}

/-! what comes in: blocks that nobody writes -/
def RO (h : H) : Prop := ∀ b x, h.get b = some x → ∃ es, x = .row true es
def Up (h h' : H) : Prop := h.next ≤ h'.next ∧ ∀ b x, h.get b = some x → h'.get b = some x
theorem Up.refl (h : H) : Up h h := ⟨Nat.le_refl _, fun _ _ g => g⟩
theorem Up.trans {a b c : H} (h : Up a b) (k : Up b c) : Up a c := ⟨Nat.le_trans h.1 k.1, fun _ _ g => k.2 _ _ (h.2 _ _ g)⟩
theorem Up.push (h : H) (x : Blk) : Up h (h.push x) := ⟨by simp, fun b y g => by
  rw [H.get_push, if_neg (by have := H.get_lt g; omega)]; exact g⟩

def All2 (p : TypeId → V → Prop) : List TypeId → List V → Prop
  | [], [] => True
  | t :: ts, v :: vs => p t v ∧ All2 p ts vs
  | _, _ => False
theorem All2.imp {p q : TypeId → V → Prop} (h : ∀ t v, p t v → q t v) : ∀ {ts : List TypeId} {vs : List V}, All2 p ts vs → All2 q ts vs
  | [], [], _ => trivial
  | _ :: _, _ :: _, ⟨a, b⟩ => ⟨h _ _ a, All2.imp h b⟩

/-- a value that was read, of a type; `k`: how deep types go -/
def Ro (P : Program) (h : H) : Nat → TypeId → V → Prop
  | 0, _, _ => False
  | k + 1, t, v => match desc P t with
    | some .bool => ∃ b, v = .bool b
    | some (.int kd) => ∃ n, v = .int kd n ∧ kd.min ≤ n ∧ n ≤ kd.max
    | some .string => ∃ s : List UInt8, v = .str s ∧ s.length ≤ reachBytes
    | some (.slice e) => v = .nils ∨ ∃ te, tgo P e = some te ∧ (v = .slz te ∨ ∃ b vs, v = .slc te b [] 0 vs.length false ∧ h.get b = some (.row true vs) ∧ vs.length * P.bytesOf e ≤ reachBytes ∧ ∀ x ∈ vs, Ro P h k e x)
    | some (.struct _) => ∃ vs, v = .agg (undId P t) vs ∧ All2 (Ro P h k) (kids P t) vs
    | some (.array _ _) => ∃ vs, v = .agg (undId P t) vs ∧ All2 (Ro P h k) (kids P t) vs
    | _ => False

theorem Ro.up {h h' : H} (u : Up h h') : ∀ {k : Nat} {t : TypeId} {v : V}, Ro P h k t v → Ro P h' k t v
  | 0, _, _, r => r
  | k + 1, t, v, r => by
    unfold Ro at r ⊢
    cases hd : desc P t with
    | none => rw [hd] at r; exact r.elim
    | some d =>
      rw [hd] at r
      cases d <;> first | exact r | skip
      case slice e =>
        rcases r with r | ⟨te, h1, r | ⟨b, vs, h2, h3, h4, h5⟩⟩
        · exact .inl r
        · exact .inr ⟨te, h1, .inl r⟩
        · exact .inr ⟨te, h1, .inr ⟨b, vs, h2, u.2 _ _ h3, h4, fun x hx => Ro.up u (h5 x hx)⟩⟩
      case struct fs => obtain ⟨vs, h1, h2⟩ := r; exact ⟨vs, h1, h2.imp fun _ _ => Ro.up u⟩
      case array n e => obtain ⟨vs, h1, h2⟩ := r; exact ⟨vs, h1, h2.imp fun _ _ => Ro.up u⟩

def okArg (P : Program) : Nat → TypeId → Bool
  | 0, _ => false
  | k + 1, t => match desc P t with
    | some .bool => true
    | some (.int _) => true
    | some .string => true
    | some (.slice e) => okArg P k e && Nat.blt 0 (P.cellsOf e)
    | some (.struct fs) => fs.toList.all fun f => okArg P k f.type
    | some (.array _ e) => okArg P k e
    | _ => false

theorem tgo_of_desc {t : TypeId} {d : TypeDesc} (h : desc P t = some d) : (tgo P t).isSome := by
  unfold tgo; rw [h]; cases d <;> rfl

theorem St.pushRO {M : Inj} {h : H} {w : World} (S : St P M h w) (ro : RO h) {es : List V} {i : BI} (hi : i.cid < w.heap.size) (hb : HB P (M.add h.next i) w h.next (.row true es)) :
    St P (M.add h.next i) (h.push (.row true es)) w ∧ RO (h.push (.row true es)) := by
  have hle : M.le (M.add h.next i) := Inj.le_add S.fresh
  have hro : RO (h.push (.row true es)) := by
    intro b x g
    rw [H.get_push] at g
    by_cases e : b = h.next
    · subst e; simp at g; exact ⟨es, g.symm⟩
    · simp [e] at g; exact ro b x g
  have hadd : ∀ b j, b ≠ h.next → M.add h.next i b = some j → M b = some j := fun b j e hj => by simpa [Inj.add, e] using hj
  refine ⟨⟨?_, ?_, ?_, ?_⟩, hro⟩
  · intro b0 x0 g
    rw [H.get_push] at g
    by_cases e : b0 = h.next
    · subst e; simp at g; subst g; exact hb
    · simp [e] at g; exact (S.blk _ _ g).other hle fun _ _ => rfl
  · intro b b' x x' i1 i2 g _ _ hr
    obtain ⟨es', rfl⟩ := hro b x g
    exact hr.elim
  · intro b0 j hj
    by_cases e : b0 = h.next
    · subst e; simp
    · have := S.dom _ _ (hadd _ _ e hj); simp; omega
  · intro b0 j hj
    by_cases e : b0 = h.next
    · subst e; rw [Inj.add_self] at hj; injection hj with hj; subst hj; exact hi
    · exact S.cid _ _ (hadd _ _ e hj)

/-- cells of a block -/
theorem cell?_some {w : World} {a : Addr} {v : Value} (h : w.cell? a = some v) : ∃ cells el fz, w.heap[a.block]? = some (.cells cells el fz) ∧ a.spot = none ∧ cells[a.off]? = some v := by
  unfold World.cell? at h
  split at h
  · rename_i c el fz hc
    refine ⟨c, el, fz, hc, ?_⟩
    cases hs : a.spot with
    | some s => simp [hs] at h
    | none => simp [hs] at h; exact ⟨rfl, h⟩
  · cases h
theorem add_block (a : Addr) (n : Nat) : (a.add n).block = a.block := by unfold Addr.add; split <;> rfl
theorem add_off (a : Addr) (n : Nat) : (a.add n).off = a.off + n := by unfold Addr.add; split <;> simp_all

theorem mapM_get {α β : Type} {f : α → Option β} : ∀ {l : List α} {r : List β}, l.mapM f = some r → ∀ {i : Nat} {x : α}, l[i]? = some x → f x = r[i]?
  | [], r, h, i, x, hx => by simp at hx
  | y :: l, r, h, i, x, hx => by
    rw [List.mapM_cons] at h
    cases hy : f y with
    | none => simp [hy] at h
    | some z =>
      cases hl : l.mapM f with
      | none => simp [hy, hl] at h
      | some zs =>
        simp [hy, hl] at h
        subst h
        cases i with
        | zero => simp at hx; subst hx; simpa using hy
        | succ i => simp at hx; simpa using mapM_get hl hx
theorem mapM_len {α β : Type} {f : α → Option β} : ∀ {l : List α} {r : List β}, l.mapM f = some r → r.length = l.length
  | [], r, h => by simp at h; subst h; rfl
  | y :: l, r, h => by
    rw [List.mapM_cons] at h
    cases hy : f y with
    | none => simp [hy] at h
    | some z =>
      cases hl : l.mapM f with
      | none => simp [hy, hl] at h
      | some zs => simp [hy, hl] at h; subst h; simp [mapM_len hl]

theorem cells?_some {w : World} {a : Addr} {n : Nat} {l : List Value} (h : w.cells? 0 a n = some l) (hn : 0 < n) : ∃ cells el fz, w.heap[a.block]? = some (.cells cells el fz) ∧ a.spot = none ∧ a.off + n ≤ cells.size ∧ l = (cells.toList.drop a.off).take n := by
  unfold World.cells? at h
  simp only [Nat.zero_le, if_true] at h
  have hlen := mapM_len h
  simp only [List.length_range] at hlen
  have hget : ∀ i, i < n → w.cell? (a.add i) = l[i]? := fun i hi => mapM_get h (i := i) (x := i) (by simp [hi])
  have h0 := hget 0 hn
  have hl0 : l[0]? = some l[0] := List.getElem?_eq_getElem (by omega)
  rw [hl0] at h0
  obtain ⟨cells, el, fz, e1, e2, e3⟩ := cell?_some h0
  rw [add_block] at e1
  have e2 : a.spot = none := by simpa [Addr.add] using e2
  have hall : ∀ i, i < n → cells[a.off + i]? = l[i]? ∧ a.off + i < cells.size := by
    intro i hi
    have hi2 := hget i hi
    have hli : l[i]? = some l[i] := List.getElem?_eq_getElem (by omega)
    rw [hli] at hi2
    obtain ⟨c2, el2, fz2, f1, f2, f3⟩ := cell?_some hi2
    rw [add_block, e1] at f1
    injection f1 with f1; injection f1 with f1 _ _
    subst f1
    rw [add_off] at f3
    exact ⟨f3.trans hli.symm, (Array.getElem?_eq_some_iff.1 f3).1⟩
  refine ⟨cells, el, fz, e1, e2, by have := (hall (n - 1) (by omega)).2; omega, ?_⟩
  apply List.ext_getElem?
  intro i
  rw [List.getElem?_take, List.getElem?_drop]
  by_cases hi : i < n
  · rw [if_pos hi, ← (hall i hi).1]; simp
  · rw [if_neg hi, List.getElem?_eq_none]; omega

section
variable {HH : Type} {enc : TypeId × Value → HH}

def sized (P : Program) (t : TypeId) (d : DataW HH) : Prop := ∀ n ∈ d.weights P t, n ≤ reachBytes

theorem weightsAll_mem {e : TypeId} : ∀ {l : List (DataW HH)} {d : DataW HH}, d ∈ l → ∀ n ∈ d.weights P e, n ∈ DataW.weightsAll P e l
  | x :: l, d, h, n, hn => by
    simp only [DataW.weightsAll, List.mem_append]
    rcases List.mem_cons.1 h with rfl | h
    · exact .inl hn
    · exact .inr (weightsAll_mem h n hn)
theorem weightsEach_mem : ∀ {ts : List TypeId} {l : List (DataW HH)} {i : Nat} {t : TypeId} {d : DataW HH}, ts[i]? = some t → l[i]? = some d → ∀ n ∈ d.weights P t, n ∈ DataW.weightsEach P ts l
  | [], _, i, t, d, h, _, n, hn => by simp at h
  | _ :: _, [], i, t, d, _, h, n, hn => by simp at h
  | t0 :: ts, x :: l, 0, t, d, h, h', n, hn => by
    simp at h h'; subst h h'
    simp only [DataW.weightsEach, List.mem_append]; exact .inl hn
  | t0 :: ts, x :: l, i + 1, t, d, h, h', n, hn => by
    simp at h h'
    simp only [DataW.weightsEach, List.mem_append]; exact .inr (weightsEach_mem h h' n hn)

abbrev Rdg (HH : Type) := DataW HH × List MemPlace
/-- what opening a value gives -/
def Opens (P : Program) (enc : TypeId × Value → HH) (W : World) (k : Nat) : Prop := ∀ (n : Nat) (t : TypeId) (cs : List Value) (x : Rdg HH), okArg P k t = true → DataW.trod enc P W 0 (fun _ => true) true n t cs = some x → sized P t x.1 →
  ∀ (h : H) (M : Inj), St P M h W → RO h → ∃ h' M' v, St P M' h' W ∧ RO h' ∧ M.le M' ∧ Up h h' ∧ R P M' v cs ∧ okT P v t ∧ Ro P h' k t v

theorem openK {W : World} {k : Nat} (ih : Opens P enc W k) : ∀ (ts : List TypeId) (cs : List Value) (xs : List (Rdg HH)),
    (∀ i t, ts[i]? = some t → okArg P k t = true ∧ ∃ n x, xs[i]? = some x ∧ DataW.trod enc P W 0 (fun _ => true) true n t ((cs.drop ((ts.take i).map P.cellsOf).sum).take (P.cellsOf t)) = some x ∧ sized P t x.1) →
    cs.length = (ts.map P.cellsOf).sum → ∀ {h : H} {M : Inj}, St P M h W → RO h → ∃ h' M' vs, St P M' h' W ∧ RO h' ∧ M.le M' ∧ Up h h' ∧ RL P M' vs ts cs ∧ All2 (Ro P h' k) ts vs
  | [], cs, xs, _, hl, h, M, S, ro => ⟨h, M, [], S, ro, .refl _, .refl _, by
      simp only [RL, true_and]
      exact List.length_eq_zero_iff.1 (by simpa using hl), trivial⟩
  | t :: ts, cs, xs, hx, hl, h, M, S, ro => by
    obtain ⟨ok, n, x, hx0, ht, hs⟩ := hx 0 t rfl
    simp only [List.take_zero, List.map_nil, List.sum_nil, List.drop_zero] at ht
    obtain ⟨h1, M1, v, S1, ro1, le1, up1, r1, ok1, o1⟩ := ih _ _ _ _ ok ht hs _ _ S ro
    simp only [List.map_cons, List.sum_cons] at hl
    obtain ⟨h2, M2, vs, S2, ro2, le2, up2, r2, o2⟩ := openK ih ts (cs.drop (P.cellsOf t)) xs.tail (fun i t' hi => by
      obtain ⟨ok', n', x', hx', ht', hs'⟩ := hx (i + 1) t' (by simpa using hi)
      refine ⟨ok', n', x', by rw [List.getElem?_tail]; exact hx', ?_, hs'⟩
      rw [List.drop_drop]
      simpa [List.take_succ_cons] using ht') (by rw [List.length_drop]; omega) S1 ro1
    refine ⟨h2, M2, v :: vs, S2, ro2, le1.trans le2, up1.trans up2, ?_, o1.up up2, o2⟩
    simp only [RL]
    exact ⟨t, ts, cs.take (P.cellsOf t), cs.drop (P.cellsOf t), rfl, (List.take_append_drop _ _).symm, ok1, R.mono le2 _ _ r1, r2⟩

theorem trod_array {n0 : Nat} {e t : TypeId} {W : World} {base : Nat} {sp : Nat → Bool} {held : Bool} {fuel : Nat} {cs : List Value} {x : Rdg HH} (ht : P.underlying t = some (.array n0 e)) (h : DataW.trod enc P W base sp held fuel t cs = some x) :
    ∃ (xs : List (Rdg HH)) (n : Nat), fuel = n + 1 ∧ x = (.agg (xs.map (·.1)), xs.flatMap (·.2)) ∧ cs.length = P.cellsOf t ∧ xs.length = n0 ∧
      ∀ i, i < n0 → DataW.trod enc P W base sp held n e ((cs.drop (i * P.cellsOf e)).take (P.cellsOf e)) = xs[i]? := by
  cases fuel with
  | zero => simp [DataW.trod] at h
  | succ n =>
    unfold DataW.trod at h
    rw [ht] at h
    split at h <;> simp_all
    obtain ⟨hl, xs, hp, hd⟩ := h
    exact ⟨xs, hd.symm, by simpa using mapM_len hp, fun i hi => mapM_get hp (i := i) (x := i) (by simp [hi])⟩

theorem openT (L : Lay P) {W : World} : ∀ k, Opens P enc W k
  | 0 => fun _ _ _ _ h => by simp [okArg] at h
  | k + 1 => fun n t cs x ok ht hs h M S ro => by
    have ih := openT L (W := W) k
    unfold okArg at ok
    cases hd : desc P t with
    | none => simp [hd] at ok
    | some d =>
      have hu := desc_und hd
      cases d <;> simp only [hd, Bool.false_eq_true] at ok
      case bool =>
        obtain ⟨b, rfl, rfl⟩ := DataW.trod_bool hu ht
        refine ⟨h, M, .bool b, S, ro, .refl _, .refl _, by simp [R], ⟨none, by unfold tgo; rw [hd], rfl⟩, ?_⟩
        unfold Ro; rw [hd]; exact ⟨b, rfl⟩
      case int kd =>
        obtain ⟨m, rfl, rfl, hw⟩ := DataW.trod_int hu ht
        refine ⟨h, M, .int kd m, S, ro, .refl _, .refl _, by simp [R], ⟨none, by unfold tgo; rw [hd], rfl⟩, ?_⟩
        unfold Ro; rw [hd]
        simp only [Lit.wf, Bool.and_eq_true, decide_eq_true_eq] at hw
        exact ⟨m, rfl, hw.1, hw.2⟩
      case string =>
        obtain ⟨s, rfl, rfl, hw⟩ := DataW.trod_string hu ht
        refine ⟨h, M, .str s.data.toList, S, ro, .refl _, .refl _, by simp [R], ⟨none, by unfold tgo; rw [hd], rfl⟩, ?_⟩
        unfold Ro; rw [hd]
        exact ⟨_, rfl, hs _ (by simp [DataW.weights])⟩
      case slice e =>
        simp only [Bool.and_eq_true] at ok
        obtain ⟨ok, h0⟩ := ok
        rw [blt_eq, decide_eq_true_eq] at h0
        have htg : tgo P t = some none := by unfold tgo; rw [hd]
        rcases DataW.trod_slice hu ht with ⟨rfl, rfl⟩ | ⟨a, len, cap, elems, rest, n', rfl, rfl, rfl, _, hlc, hcm, hel, he, hr, _⟩
        · refine ⟨h, M, .nils, S, ro, .refl _, .refl _, by simp [R], ⟨none, htg, rfl⟩, ?_⟩
          unfold Ro; rw [hd]; exact .inl rfl
        · obtain ⟨hr1, hr2⟩ := hr rfl
          have hde : ∃ de, desc P e = some de := by
            cases k with
            | zero => simp [okArg] at ok
            | succ k => unfold okArg at ok; cases hde : desc P e with
              | none => simp [hde] at ok
              | some de => exact ⟨de, rfl⟩
          obtain ⟨de, hde⟩ := hde
          obtain ⟨te, hte⟩ := Option.isSome_iff_exists.1 (tgo_of_desc hde)
          by_cases hc : cap = 0
          · subst hc
            have : len = 0 := by omega
            subst this
            refine ⟨h, M, .slz te, S, ro, .refl _, .refl _, by simp only [R]; exact ⟨a, rfl⟩, ⟨none, htg, rfl⟩, ?_⟩
            unfold Ro; rw [hd]; exact .inr ⟨te, hte, .inl rfl⟩
          · -- all its places
            have hat : ∀ i, i < cap → ∃ l, W.cells? 0 (a.add (i * P.cellsOf e)) (P.cellsOf e) = some l := by
              intro i hi
              by_cases hl : i < len
              · have := he i hl
                rw [List.getElem?_eq_getElem (by omega)] at this
                obtain ⟨l, h1, _⟩ := Option.bind_eq_some_iff.1 this
                exact ⟨l, h1⟩
              · have := hr2 (i - len) (by omega)
                rw [List.getElem?_eq_getElem (by omega)] at this
                obtain ⟨l, h1, _⟩ := Option.bind_eq_some_iff.1 this
                rw [show len + (i - len) = i by omega] at h1
                exact ⟨l, h1⟩
            obtain ⟨l0, hl0⟩ := hat 0 (by omega)
            obtain ⟨cells, el, fz, e1, e2, _, _⟩ := cells?_some hl0 h0
            rw [add_block] at e1
            have e2 : a.spot = none := by simpa [Addr.add] using e2
            have hat' : ∀ i l, i < cap → W.cells? 0 (a.add (i * P.cellsOf e)) (P.cellsOf e) = some l → a.off + i * P.cellsOf e + P.cellsOf e ≤ cells.size ∧ l = (cells.toList.drop (a.off + i * P.cellsOf e)).take (P.cellsOf e) := by
              intro i l hi hl
              obtain ⟨c2, el2, fz2, f1, _, f3, f4⟩ := cells?_some hl h0
              rw [add_block, e1] at f1
              injection f1 with f1; injection f1 with f1 _ _
              subst f1
              rw [add_off] at f3 f4
              exact ⟨f3, f4⟩
            have hsz : a.off + cap * P.cellsOf e ≤ cells.size := by
              obtain ⟨l, hl⟩ := hat (cap - 1) (by omega)
              have h1 := (hat' _ _ (by omega) hl).1
              have : cap * P.cellsOf e = (cap - 1) * P.cellsOf e + P.cellsOf e := by
                rw [← Nat.succ_mul]; congr 1; omega
              omega
            have hcs : ((cells.toList.drop a.off).take (len * P.cellsOf e)).length = len * P.cellsOf e := by
              have : len * P.cellsOf e ≤ cap * P.cellsOf e := Nat.mul_le_mul_right _ hlc
              rw [List.length_take, List.length_drop, Array.length_toList]; omega
            obtain ⟨h1, M1, vs, S1, ro1, le1, up1, r1, o1⟩ := openK ih (List.replicate len e) ((cells.toList.drop a.off).take (len * P.cellsOf e)) elems (fun i t' hi => by
              rw [List.getElem?_replicate] at hi
              split at hi <;> simp at hi
              rename_i hlt
              subst hi
              have hx := he i hlt
              have hg : elems[i]? = some elems[i] := List.getElem?_eq_getElem (by omega)
              rw [hg] at hx
              obtain ⟨l, q1, q2⟩ := Option.bind_eq_some_iff.1 hx
              refine ⟨ok, n', elems[i], hg, ?_, fun m hm => hs m ?_⟩
              · rw [sum_replicate _ _ _ _ (Nat.le_of_lt hlt)]
                rw [(hat' i l (by omega) q1).2] at q2
                have : ((((cells.toList.drop a.off).take (len * P.cellsOf e)).drop (i * P.cellsOf e)).take (P.cellsOf e)) = (cells.toList.drop (a.off + i * P.cellsOf e)).take (P.cellsOf e) := by
                  have hle : i * P.cellsOf e + P.cellsOf e ≤ len * P.cellsOf e := by rw [← Nat.succ_mul]; exact Nat.mul_le_mul_right _ hlt
                  rw [List.drop_take, List.take_take, List.drop_drop, Nat.min_eq_left (by omega)]
                rw [this]; exact q2
              · simp only [DataW.weights, hu, List.mem_cons, List.mem_append]
                exact .inr (.inl (weightsAll_mem (List.mem_map.2 ⟨elems[i], List.getElem_mem _, rfl⟩) m hm))) (by
                rw [hcs]
                have := sum_replicate len e P.cellsOf len (Nat.le_refl _)
                rw [List.take_of_length_le (by simp)] at this
                exact this.symm) S ro
            have hvl : vs.length = len := by rw [RL.length r1]; simp
            have hb : HB P (M1.add h1.next (.row a.block a.off e cap)) W h1.next (.row true vs) := by
              refine ⟨a.block, a.off, e, cap, Inj.add_self _ _ _, cells, el, fz.1, fz.2, e1, by omega, hsz, ?_, (fun hh => by cases hh), h0, by rw [hte]; rfl⟩
              rw [hvl]; exact RL.mono (Inj.le_add S1.fresh) _ _ _ r1
            obtain ⟨S2, ro2⟩ := S1.pushRO ro1 (es := vs) (i := .row a.block a.off e cap) (by
              show a.block < W.heap.size
              exact (Array.getElem?_eq_some_iff.1 e1).1) hb
            refine ⟨_, _, .slc te h1.next [] 0 vs.length false, S2, ro2, le1.trans (Inj.le_add S1.fresh), up1.trans (Up.push _ _), ?_, ⟨none, htg, rfl⟩, ?_⟩
            · have := slc_VR (P := P) (M := M1.add h1.next (.row a.block a.off e cap)) (b := h1.next) (s := 0) (n := len) (cap := cap) (x := false) (Inj.add_self _ _ _) hte hlc (by omega) (fun hh => by cases hh)
              rw [hvl]
              have ea : a = ⟨a.block, a.off, none⟩ := by cases a; simp at e2; subst e2; rfl
              rw [ea]
              simpa [VR] using this
            · unfold Ro; rw [hd]
              refine .inr ⟨te, hte, .inr ⟨h1.next, vs, rfl, by rw [H.get_push]; simp, ?_, ?_⟩⟩
              · have := hs ((elems.length + rest.length) * P.bytesOf e) (by simp [DataW.weights, hu])
                refine Nat.le_trans (Nat.mul_le_mul_right _ ?_) this
                omega
              · intro y hy
                have key : ∀ (m : Nat) (vs : List V), All2 (Ro P h1 k) (List.replicate m e) vs → ∀ y ∈ vs, Ro P h1 k e y := by
                  intro m
                  induction m with
                  | zero => intro vs hh y hy; cases vs with
                    | nil => cases hy
                    | cons _ _ => exact hh.elim
                  | succ m ihm =>
                    intro vs hh y hy
                    cases vs with
                    | nil => cases hy
                    | cons v vs =>
                      rw [List.replicate_succ] at hh
                      rcases List.mem_cons.1 hy with rfl | hy
                      · exact hh.1
                      · exact ihm vs hh.2 y hy
                exact (key len vs o1 y hy).up (Up.push _ _)
      case struct fs =>
        rw [List.all_eq_true] at ok
        obtain ⟨xs, n', rfl, rfl, hl, hxl, hx⟩ := DataW.trod_struct hu ht
        have htg : tgo P t = some (some (undId P t)) := by unfold tgo; rw [hd]
        have hk : kids P t = fs.toList.map (·.type) := by unfold kids; rw [hd]
        obtain ⟨h1, M1, vs, S1, ro1, le1, up1, r1, o1⟩ := openK ih (kids P t) cs xs (fun i t' hi => by
          obtain ⟨k1, _⟩ := L.kid _ _ _ hi
          rw [hk, List.getElem?_map] at hi
          obtain ⟨f, hf, rfl⟩ := Option.map_eq_some_iff.1 hi
          have hf' : fs[i]? = some f := by simpa using hf
          rw [koff_str hd hf'] at k1
          simp only [Option.some.injEq, Prod.mk.injEq, and_true] at k1
          have hlt : i < xs.length := by rw [hxl]; exact (Array.getElem?_eq_some_iff.1 hf').1
          have hg : xs[i]? = some xs[i] := List.getElem?_eq_getElem hlt
          have := hx i f hf'
          rw [hg, k1] at this
          refine ⟨ok f (List.mem_of_getElem? hf), n', xs[i], hg, this, fun m hm => hs m ?_⟩
          simp only [DataW.weights, hu]
          exact weightsEach_mem (i := i) (t := f.type) (by rw [List.getElem?_map, hf]; rfl) (by rw [List.getElem?_map, hg]; rfl) m hm) (by rw [hl]; exact L.sz _ _ htg) S ro
        refine ⟨h1, M1, .agg (undId P t) vs, S1, ro1, le1, up1, ?_, ⟨_, htg, by simp [tagOk]⟩, ?_⟩
        · simp only [R]
          obtain ⟨_, _, t3⟩ := L.tag _ _ htg
          exact ⟨t3, by rw [L.kids_eq htg]; exact r1⟩
        · unfold Ro; rw [hd]; exact ⟨vs, rfl, o1⟩
      case array m e =>
        obtain ⟨xs, n', rfl, rfl, hl, hxl, hx⟩ := trod_array hu ht
        have htg : tgo P t = some (some (undId P t)) := by unfold tgo; rw [hd]
        have hk : kids P t = List.replicate m e := by unfold kids; rw [hd]
        obtain ⟨h1, M1, vs, S1, ro1, le1, up1, r1, o1⟩ := openK ih (kids P t) cs xs (fun i t' hi => by
          rw [hk, List.getElem?_replicate] at hi
          split at hi <;> simp at hi
          rename_i hlt
          subst hi
          have hg : xs[i]? = some xs[i] := List.getElem?_eq_getElem (by omega)
          have := hx i hlt
          rw [hg] at this
          refine ⟨ok, n', xs[i], hg, ?_, fun m hm => hs m ?_⟩
          · rw [hk, sum_replicate _ _ _ _ (Nat.le_of_lt hlt)]; exact this
          · simp only [DataW.weights, hu]
            exact weightsAll_mem (List.mem_map.2 ⟨xs[i], List.getElem_mem _, rfl⟩) m hm) (by rw [hl]; exact L.sz _ _ htg) S ro
        refine ⟨h1, M1, .agg (undId P t) vs, S1, ro1, le1, up1, ?_, ⟨_, htg, by simp [tagOk]⟩, ?_⟩
        · simp only [R]
          obtain ⟨_, _, t3⟩ := L.tag _ _ htg
          exact ⟨t3, by rw [L.kids_eq htg]; exact r1⟩
        · unfold Ro; rw [hd]; exact ⟨vs, rfl, o1⟩

/-- what a call is handed -/
theorem openArgs (L : Lay P) {W : World} {k base : Nat} : ∀ {ts : List TypeId} {args : List Value} {ds : List (DataW HH)} {ps : List MemPlace}, DataW.TrodAll enc P W 0 (fun _ => true) true ts args ds ps →
    (∀ t ∈ ts, okArg P k t = true) → (∀ (j : Nat) t v, ts[j]? = some t → args[j]? = some v → Value.okWide P W .any base t v) → (∀ n ∈ DataW.weightsEach P ts ds, n ≤ reachBytes) → ∀ {h : H} {M : Inj}, St P M h W → RO h →
    ∃ h' M' vs, St P M' h' W ∧ RO h' ∧ M.le M' ∧ Up h h' ∧ UVs P M' vs args ∧ All2 (Ro P h' k) ts vs
  | [], [], [], ps, _, _, _, _, h, M, S, ro => ⟨h, M, [], S, ro, .refl _, .refl _, rfl, trivial⟩
  | t :: ts, v :: args, d :: ds, ps, hT, ok, hv, hs, h, M, S, ro => by
    obtain ⟨p, q, ⟨fuel, h1⟩, h2, _⟩ := hT
    obtain ⟨h1', M1, u, S1, ro1, le1, up1, r1, ok1, o1⟩ := openT L k _ _ _ _ (ok t (List.mem_cons_self ..)) h1 (fun n hn => hs n (by simp only [DataW.weightsEach, List.mem_append]; exact .inl hn)) _ _ S ro
    obtain ⟨h2', M2, us, S2, ro2, le2, up2, r2, o2⟩ := openArgs L h2 (fun t' ht' => ok t' (List.mem_cons_of_mem _ ht')) (fun j t' v' a b => hv (j + 1) t' v' (by simpa using a) (by simpa using b))
      (fun n hn => hs n (by simp only [DataW.weightsEach, List.mem_append]; exact .inr hn)) S1 ro1
    refine ⟨h2', M2, u :: us, S2, ro2, le1.trans le2, up1.trans up2, ⟨v, args, rfl, .inr (VR.mono le2 ?_), r2⟩, o1.up up2, o2⟩
    have hw := hv 0 t v rfl rfl
    obtain ⟨tg, htg, hok⟩ := ok1
    cases tg with
    | some uu =>
      obtain ⟨cs, rfl⟩ := tagOk_some hok
      unfold Value.okWide at hw
      have hda : ∃ d, desc P t = some d ∧ ((∃ fs, d = .struct fs) ∨ ∃ n e, d = .array n e) := by
        obtain ⟨d, hd⟩ := tgo_desc htg
        refine ⟨d, hd, ?_⟩
        unfold tgo at htg
        rw [hd] at htg
        cases d <;> simp at htg <;> first
          | exact .inl ⟨_, rfl⟩
          | exact .inr ⟨_, _, rfl⟩
      obtain ⟨d, hd, hd2⟩ := hda
      rw [desc_und hd] at hw
      rcases hd2 with ⟨fs, rfl⟩ | ⟨n, e, rfl⟩
      · obtain ⟨c, rfl, _⟩ := hw; exact ⟨c, rfl, r1⟩
      · obtain ⟨c, rfl, _⟩ := hw; exact ⟨c, rfl, r1⟩
    | none =>
      obtain ⟨v', e1, e2, _⟩ := R.one r1 hok
      have e3 : v = v' := by
        cases v with
        | agg cs =>
          -- a value of one cell is none of several
          exfalso
          obtain ⟨d, hd⟩ := tgo_desc htg
          unfold Value.okWide at hw
          rw [desc_und hd] at hw
          unfold tgo at htg
          rw [hd] at htg
          cases d <;> simp only [Option.some.injEq, reduceCtorEq] at htg <;> simp only [Cell.okWide, Cell.ok, desc_und hd] at hw
        | _ => simpa [Value.cells] using e1
      subst e3
      have r1' : R P M1 u [v] := by rw [← e1]; exact r1
      cases u <;> first | exact r1' | (simp [tagOk] at hok; done)

/-- **what the machine answers, the call answers** -/
theorem calls_of_machine {env : Env} (E : EnvS P env) (L : Lay P) {W : World} {k base : Nat} {f : FuncId} {ts : List TypeId} {args : Array Value} {ds : List (DataW HH)} {ps : List MemPlace} (hT : DataW.TrodAll enc P W 0 (fun _ => true) true ts args.toList ds ps)
    (ok : ∀ t ∈ ts, okArg P k t = true) (hv : ∀ (j : Nat) t v, ts[j]? = some t → args[j]? = some v → Value.okWide P W .any base t v) (hs : (DataW.weightsEach P ts ds).all (· ≤ reachBytes) = true)
    (law : ∀ h vs, RO h → All2 (Ro P h k) ts vs → ∃ h', env f vs h = some (.bool true, h')) : Calls P f args W fun e W' => e = .returned (.bool true) ∧ RowKit.Below W.heap.size W W' := by
  have h0g : ∀ b, (H.mk 0 .nil).get b = none := fun b => by simp only [H.get, Tr.get]; cases Nat.blt b 0 <;> rfl
  have S0 : St P (fun _ => none) (H.mk 0 .nil) W := ⟨fun b x g => (by rw [h0g] at g; cases g), fun b b' x x' i i' g => (by rw [h0g] at g; cases g), fun b i g => (by cases g), fun b i g => (by cases g)⟩
  have R0 : RO (H.mk 0 .nil) := fun b x g => by rw [h0g] at g; cases g
  obtain ⟨h, M, vs, S, ro, _, _, U, o⟩ := openArgs L hT ok (fun j t v a b => hv j t v a (by simpa using b)) (fun n hn => by
    have := List.all_eq_true.1 hs n hn
    simpa using this) S0 R0
  obtain ⟨h', he⟩ := law h vs ro o
  obtain ⟨_, hc⟩ := E f vs h _ _ he
  have := hc M W args.toList S U
  simp only [Array.toArray_toList] at this
  refine Calls.mono this ?_
  rintro e W' ⟨v', rfl, M', S', X', hv'⟩
  rw [hv'.bool]
  refine ⟨rfl, X'.os, X'.tape, X'.out, X'.sz, fun c hc => X'.keep c hc fun b x i g hr => ?_⟩
  obtain ⟨es, rfl⟩ := ro b x g
  exact hr.elim
end
end Go.AM

namespace Go.AM
open Go
variable {P : Program}

/-! the table of types, by a check -/
def sumOk (P : Program) : List Field → Nat → Option Nat
  | [], o => some o
  | f :: r, o => bif Nat.beq f.offset o && (tgo P f.type).isSome then sumOk P r (o + P.cellsOf f.type) else none
def notNamed (P : Program) (u : TypeId) : Bool := match P.info? u with | some { desc := .named _ _, .. } => false | some _ => true | none => false
def layT (P : Program) (t : TypeId) : Bool := match desc P t with
  | some (.struct fs) => (match sumOk P fs.toList 0 with | some n => Nat.beq n (P.cellsOf t) | none => false) && notNamed P (undId P t) && Nat.blt (undId P t) P.types.size && Nat.beq (P.cellsOf (undId P t)) (P.cellsOf t)
  | some (.array n e) => (tgo P e).isSome && Nat.beq (n * P.cellsOf e) (P.cellsOf t) && notNamed P (undId P t) && Nat.blt (undId P t) P.types.size && Nat.beq (P.cellsOf (undId P t)) (P.cellsOf t)
  | some _ => Nat.beq (P.cellsOf t) 1
  | none => true
def layB (P : Program) : Bool := (List.range P.types.size).all (layT P)

theorem desc_lt {t : TypeId} {d : TypeDesc} (h : desc P t = some d) : t < P.types.size := by
  unfold desc at h
  rw [blt_eq] at h
  by_cases hb : t < P.types.size
  · exact hb
  · simp [hb] at h
theorem layB_at (h : layB P = true) {t : TypeId} {d : TypeDesc} (hd : desc P t = some d) : layT P t = true := by
  unfold layB at h
  rw [List.all_eq_true] at h
  exact h t (List.mem_range.2 (desc_lt hd))

theorem sumOk_get : ∀ {l : List Field} {o n : Nat}, sumOk P l o = some n → n = o + (l.map fun f => P.cellsOf f.type).sum ∧
    ∀ i f, l[i]? = some f → f.offset = o + ((l.take i).map fun f => P.cellsOf f.type).sum ∧ (tgo P f.type).isSome
  | [], o, n, h => by
    simp only [sumOk, Option.some.injEq] at h; subst h
    exact ⟨by simp, fun i f h => by simp at h⟩
  | f :: l, o, n, h => by
    simp only [sumOk] at h
    cases hb : (Nat.beq f.offset o && (tgo P f.type).isSome) with
    | false => simp [hb] at h
    | true =>
      simp only [hb, cond_true] at h
      simp only [Bool.and_eq_true] at hb
      have h1 := Nat.eq_of_beq_eq_true hb.1
      obtain ⟨g1, g2⟩ := sumOk_get h
      refine ⟨by simp [g1]; omega, fun i f' hf => ?_⟩
      cases i with
      | zero => simp at hf; subst hf; exact ⟨by simp [h1], hb.2⟩
      | succ i =>
        simp at hf
        obtain ⟨k1, k2⟩ := g2 i f' hf
        refine ⟨?_, k2⟩
        simp [k1]; omega

theorem info_named {t : TypeId} {i : TypeInfo} {s : String} {u : TypeId} (hi : P.info? t = some i) (hd : i.desc = .named s u) : P.underlying t = (P.info? u).map (·.desc) ∧ undId P t = u := by
  obtain ⟨desc, a, b, c, d, e, f, g, k, l⟩ := i
  simp only at hd; subst hd
  constructor
  · unfold Program.underlying; rw [hi]
  · unfold undId; rw [hi]
theorem info_plain {t : TypeId} {i : TypeInfo} (hi : P.info? t = some i) (hd : ∀ s u, i.desc ≠ .named s u) : P.underlying t = some i.desc ∧ undId P t = t := by
  obtain ⟨desc, a, b, c, d, e, f, g, k, l⟩ := i
  simp only at hd
  constructor
  · unfold Program.underlying; rw [hi]
    cases desc <;> first | rfl | exact absurd rfl (hd _ _)
  · unfold undId; rw [hi]
    cases desc <;> first | rfl | exact absurd rfl (hd _ _)
theorem notNamed_at {u : TypeId} (h : notNamed P u = true) : ∃ i, P.info? u = some i ∧ ∀ s v, i.desc ≠ .named s v := by
  unfold notNamed at h
  cases hi : P.info? u with
  | none => simp [hi] at h
  | some i =>
    refine ⟨i, rfl, fun s v e => ?_⟩
    obtain ⟨desc, a, b, c, d, e', f, g, k, l⟩ := i
    simp only at e; subst e
    simp [hi] at h

theorem lay_of (h : layB P = true) : Lay P := by
  have hst : ∀ t fs, desc P t = some (.struct fs) → sumOk P fs.toList 0 = some (P.cellsOf t) ∧ notNamed P (undId P t) = true ∧ undId P t < P.types.size ∧ P.cellsOf (undId P t) = P.cellsOf t := by
    intro t fs hd
    have := layB_at h hd
    unfold layT at this
    simp only [hd, Bool.and_eq_true] at this
    obtain ⟨⟨⟨h1, h2⟩, h3⟩, h4⟩ := this
    refine ⟨?_, h2, by simpa [blt_eq] using h3, Nat.eq_of_beq_eq_true h4⟩
    split at h1
    · rename_i n hn; rw [hn]; rw [Nat.eq_of_beq_eq_true h1]
    · cases h1
  have har : ∀ t n e, desc P t = some (.array n e) → (tgo P e).isSome ∧ n * P.cellsOf e = P.cellsOf t ∧ notNamed P (undId P t) = true ∧ undId P t < P.types.size ∧ P.cellsOf (undId P t) = P.cellsOf t := by
    intro t n e hd
    have := layB_at h hd
    unfold layT at this
    simp only [hd, Bool.and_eq_true] at this
    obtain ⟨⟨⟨⟨h0, h1⟩, h2⟩, h3⟩, h4⟩ := this
    exact ⟨h0, Nat.eq_of_beq_eq_true h1, h2, by simpa [blt_eq] using h3, Nat.eq_of_beq_eq_true h4⟩
  have hund : ∀ t d, desc P t = some d → notNamed P (undId P t) = true → undId P t < P.types.size → desc P (undId P t) = some d ∧ undId P (undId P t) = undId P t := by
    intro t d hd h1 h2
    have hu := desc_und hd
    obtain ⟨j, hj, hjn⟩ := notNamed_at h1
    obtain ⟨e1, e2⟩ := info_plain hj hjn
    refine ⟨?_, e2⟩
    have hjd : j.desc = d := by
      cases hi : P.info? t with
      | none => simp [Program.underlying, hi] at hu
      | some i =>
        by_cases hn : ∃ s u, i.desc = .named s u
        · obtain ⟨s, u, hn⟩ := hn
          obtain ⟨k1, k2⟩ := info_named hi hn
          rw [k2] at hj
          rw [k1, hj] at hu
          simpa using hu
        · obtain ⟨k1, k2⟩ := info_plain hi (fun s u e => hn ⟨s, u, e⟩)
          rw [k2, hi] at hj
          injection hj with hj
          rw [k1] at hu
          rw [← hj]; simpa using hu
    unfold desc; rw [blt_eq]; simp [h2, e1, hjd]
  refine ⟨?_, ?_, ?_, ?_, ?_, ?_⟩
  · intro t i t' hk
    unfold kids at hk ⊢
    unfold koff
    cases hd : desc P t with
    | none => simp [hd] at hk
    | some d =>
      cases d <;> simp only [hd] at hk ⊢ <;> try (simp at hk; done)
      case struct fs =>
        rw [List.getElem?_map] at hk
        obtain ⟨f, hf, rfl⟩ := Option.map_eq_some_iff.1 hk
        have hf' : fs[i]? = some f := by simpa using hf
        obtain ⟨g1, g2⟩ := sumOk_get (hst t fs hd).1
        obtain ⟨k1, k2⟩ := g2 i f hf
        rw [hf']
        refine ⟨?_, k2⟩
        simp only [k1, Nat.zero_add, ← List.map_take, List.map_map]
        rfl
      case array n e =>
        obtain ⟨g0, _⟩ := har t n e hd
        rw [List.getElem?_replicate] at hk
        split at hk <;> simp at hk
        rename_i hlt
        subst hk
        refine ⟨?_, g0⟩
        simp only [hlt, if_true, Option.some.injEq, Prod.mk.injEq, and_true]
        rw [List.take_replicate, List.map_replicate, List.sum_replicate_nat, Nat.min_eq_left (Nat.le_of_lt hlt)]
  · intro t i o t' hk
    unfold koff at hk
    unfold kids
    cases hd : desc P t with
    | none => simp [hd] at hk
    | some d =>
      cases d <;> simp only [hd] at hk ⊢ <;> try (simp at hk; done)
      case struct fs =>
        cases hf : fs[i]? with
        | none => simp [hf] at hk
        | some f =>
          simp only [hf, Option.some.injEq, Prod.mk.injEq] at hk
          obtain ⟨_, rfl⟩ := hk
          rw [List.getElem?_map]
          have : fs.toList[i]? = some f := by simpa using hf
          rw [this]; rfl
      case array n e =>
        split at hk <;> simp at hk
        rename_i hlt
        rw [List.getElem?_replicate, if_pos hlt, hk.2]
  · intro t u ht
    unfold tgo at ht
    unfold kids
    cases hd : desc P t with
    | none => simp [hd] at ht
    | some d =>
      cases d <;> simp only [hd, Option.some.injEq, reduceCtorEq] at ht ⊢
      case struct fs =>
        have := (sumOk_get (hst t fs hd).1).1
        rw [this, List.map_map]; simp; rfl
      case array n e =>
        rw [List.map_replicate, List.sum_replicate_nat]; exact (har t n e hd).2.1.symm
  · intro t ht
    unfold tgo at ht
    cases hd : desc P t with
    | none => simp [hd] at ht
    | some d =>
      have := layB_at h hd
      unfold layT at this
      cases d <;> simp only [hd, Option.some.injEq, reduceCtorEq] at ht this <;> exact Nat.eq_of_beq_eq_true this
  · intro t n e hd
    exact (har t n e hd).1
  · intro t u ht
    unfold tgo at ht
    cases hd : desc P t with
    | none => simp [hd] at ht
    | some d =>
      cases d <;> simp only [hd, Option.some.injEq, reduceCtorEq] at ht
      case struct fs =>
        subst ht
        obtain ⟨_, q2, q3, q4⟩ := hst t fs hd
        obtain ⟨k1, k2⟩ := hund t _ hd q2 q3
        refine ⟨k1, q4, ?_⟩
        unfold tgo; rw [k1]; simp [k2]
      case array n e =>
        subst ht
        obtain ⟨_, _, q2, q3, q4⟩ := har t n e hd
        obtain ⟨k1, k2⟩ := hund t _ hd q2 q3
        refine ⟨k1, q4, ?_⟩
        unfold tgo; rw [k1]; simp [k2]
end Go.AM

namespace Go.AM
open Go
variable {P : Program}

/-- a table as a tree -/
inductive Bt (α : Type) where
  | nil
  | node (l : Bt α) (k : Nat) (v : α) (r : Bt α)
def Bt.get {α : Type} : Bt α → Nat → Option α
  | .nil, _ => none
  | .node l k v r, g => bif Nat.beq g k then some v else bif Nat.blt g k then l.get g else r.get g
def Bt.All {α : Type} (p : Nat → α → Prop) : Bt α → Prop
  | .nil => True
  | .node l k v r => l.All p ∧ p k v ∧ r.All p
theorem Bt.get_all {α : Type} {p : Nat → α → Prop} {g : Nat} {v : α} : ∀ {t : Bt α}, t.All p → t.get g = some v → p g v
  | .nil, _, h => by cases h
  | .node l k u r, ⟨h1, h2, h3⟩, h => by
    simp only [Bt.get] at h
    cases hb : Nat.beq g k with
    | true =>
      rw [hb] at h
      simp only [cond_true, Option.some.injEq] at h
      rw [Nat.eq_of_beq_eq_true hb, ← h]; exact h2
    | false =>
      rw [hb] at h
      simp only [cond_false] at h
      cases hl : Nat.blt g k with
      | true => rw [hl] at h; exact Bt.get_all h1 h
      | false => rw [hl] at h; exact Bt.get_all h3 h

def FaOk (P : Program) (g : Nat) (fa : Fa) : Prop := faOk P (fun _ => rk P) g fa = true ∨ ∃ f, fa = .spec f ∧ SpecOk P g f
theorem FaOk.of {g : Nat} {fa : Fa} (h : faOk P (fun _ => rk P) g fa = true) : FaOk P g fa := .inl h
theorem FaOk.spec {g : Nat} {f : List V → H → Ans} (h : SpecOk P g f) : FaOk P g (.spec f) := .inr ⟨f, rfl, h⟩

/-- **the machine's word holds** -/
theorem Ei_sound (L : Lay P) (hm : P.follows .mixedOrders = true) {T : Bt Fa} (ok : T.All (FaOk P)) : EnvS P (Ei P T.get) :=
  Ei_snd (rk := fun _ => rk P) L (fun _ _ _ _ E h1 h2 => rk_snd E L hm h1 h2) fun _ _ h => Bt.get_all ok h
/-! a call that is handed nothing: what it does lies apart from all that was -/
def h00 : H := ⟨0, .nil⟩
theorem St_h00 (w : World) : St P (fun _ => none) h00 w := by
  have h0g : ∀ b, h00.get b = none := fun b => by simp only [h00, H.get, Tr.get]; cases Nat.blt b 0 <;> rfl
  exact ⟨fun b x g => (by rw [h0g] at g; cases g), fun b b' x x' i i' g => (by rw [h0g] at g; cases g), fun b i g => (by cases g), fun b i g => (by cases g)⟩
theorem RO_h00 : RO h00 := fun b x g => by
  have h0g : h00.get b = none := by simp only [h00, H.get, Tr.get]; cases Nat.blt b 0 <;> rfl
  rw [h0g] at g; cases g
def closedF (b : Bool) : List V → H → Ans := fun vs h => match vs with | [] => some (.bool b, h) | _ => none
theorem closed_ok {env : Env} (E : EnvS P env) {g : Nat} {b : Bool} {h1 : H} (he : env g [] h00 = some (.bool b, h1)) : SpecOk P g (closedF b) := by
  intro args h v h' hf
  unfold closedF at hf
  split at hf <;> try contradiction
  simp only [Option.some.injEq, Prod.mk.injEq] at hf
  obtain ⟨rfl, rfl⟩ := hf
  obtain ⟨e1, e2⟩ := E _ _ _ _ _ he
  refine ⟨e1, fun M w args' S U => ?_⟩
  simp only [UVs] at U; subst U
  refine Calls.mono (e2 _ w [] (St_h00 w) rfl) ?_
  rintro e w' ⟨v', rfl, M', S', X', hv⟩
  have hk : ∀ c, c < w.heap.size → w'.heap[c]? = w.heap[c]? := fun c hc => X'.keep c hc fun b x i g => by
    have h0g : h00.get b = none := by simp only [h00, H.get, Tr.get]; cases Nat.blt b 0 <;> rfl
    rw [h0g] at g; cases g
  refine ⟨v', rfl, M, ⟨fun b x g => (S.blk b x g).other (.refl _) fun i hi => hk _ (S.cid _ _ hi), S.exc, S.dom, fun b i hi => Nat.lt_of_lt_of_le (S.cid _ _ hi) X'.sz⟩,
    ⟨.refl _, Nat.le_refl _, X'.sz, fun c hc _ => hk c hc, fun b x i h1 h3 => .inr ⟨b, x, i, h1, id, h3, rfl⟩, fun b i h1 h2 => (by rw [h1] at h2; cases h2), X'.tape, X'.os, X'.out⟩, ?_⟩
  rw [hv.bool]; exact .inr (by simp)

section
variable {HH : Type} {enc : TypeId × Value → HH}
/-! laws of numbers, bools and strings alone -/
def okSc (P : Program) (t : TypeId) : Bool := match desc P t with | some .bool => true | some (.int _) => true | some .string => true | _ => false
theorem openS {W : World} {base : Nat} : ∀ {ts : List TypeId} {args : List Value} {ds : List (DataW HH)} {ps : List MemPlace}, DataW.TrodAll enc P W 0 (fun _ => true) true ts args ds ps →
    (∀ t ∈ ts, okSc P t = true) → (∀ (j : Nat) t v, ts[j]? = some t → args[j]? = some v → Value.okWide P W .any base t v) → (∀ n ∈ DataW.weightsEach P ts ds, n ≤ reachBytes) → ∀ (M : Inj) (h : H), ∃ vs, UVs P M vs args ∧ All2 (Ro P h 1) ts vs
  | [], [], [], ps, _, _, _, _, _, _ => ⟨[], rfl, trivial⟩
  | t :: ts, v :: args, d :: ds, ps, hT, ok, hv, hs, M, h => by
    obtain ⟨p, q, ⟨fuel, h1⟩, h2, _⟩ := hT
    obtain ⟨us, r2, o2⟩ := openS h2 (fun t' ht' => ok t' (List.mem_cons_of_mem _ ht')) (fun j t' v' a b => hv (j + 1) t' v' (by simpa using a) (by simpa using b))
      (fun n hn => hs n (by simp only [DataW.weightsEach, List.mem_append]; exact .inr hn)) M h
    have okt := ok t (List.mem_cons_self ..)
    have hw := hv 0 t v rfl rfl
    unfold okSc at okt
    cases hd : desc P t with
    | none => simp [hd] at okt
    | some dd =>
      have hu := desc_und hd
      unfold Value.okWide at hw
      rw [hu] at hw
      cases dd <;> simp only [hd, Bool.false_eq_true] at okt <;> simp only [Cell.okWide, hu] at hw
      case bool =>
        obtain ⟨b, e, _⟩ := DataW.trod_bool hu h1
        cases v <;> simp only [Cell.ok, hu] at hw
        rename_i b2
        refine ⟨.bool b2 :: us, ⟨_, _, rfl, .inr (by simp), r2⟩, ?_, o2⟩
        unfold Ro; rw [hd]; exact ⟨_, rfl⟩
      case int kd =>
        obtain ⟨m, e, _, hwf⟩ := DataW.trod_int hu h1
        cases v <;> simp only [Cell.ok, hu] at hw
        rename_i k2 n2
        simp only [Value.cells, List.cons.injEq, Value.int.injEq, and_true] at e
        obtain ⟨rfl, rfl⟩ := e
        refine ⟨.int k2 n2 :: us, ⟨_, _, rfl, .inr (by simp), r2⟩, ?_, o2⟩
        unfold Ro; rw [hd]
        simp only [Lit.wf, Bool.and_eq_true, decide_eq_true_eq] at hwf
        exact ⟨_, rfl, hwf.1, hwf.2⟩
      case string =>
        obtain ⟨s, e, e2, _⟩ := DataW.trod_string hu h1
        simp only [Prod.mk.injEq] at e2
        obtain ⟨rfl, _⟩ := e2
        cases v <;> simp only [Cell.ok, hu] at hw
        rename_i s2
        simp only [Value.cells, List.cons.injEq, Value.string.injEq, and_true] at e
        subst e
        refine ⟨.str s2.data.toList :: us, ⟨_, _, rfl, .inr (by simp), r2⟩, ?_, o2⟩
        unfold Ro; rw [hd]
        exact ⟨_, rfl, hs _ (by simp only [DataW.weightsEach, List.mem_append]; exact .inl (by simp [DataW.weights]))⟩

theorem calls_of_scalars {env : Env} (E : EnvS P env) {W : World} {base : Nat} {f : FuncId} {ts : List TypeId} {args : Array Value} {ds : List (DataW HH)} {ps : List MemPlace} (hT : DataW.TrodAll enc P W 0 (fun _ => true) true ts args.toList ds ps)
    (ok : ∀ t ∈ ts, okSc P t = true) (hv : ∀ (j : Nat) t v, ts[j]? = some t → args[j]? = some v → Value.okWide P W .any base t v) (hs : (DataW.weightsEach P ts ds).all (· ≤ reachBytes) = true)
    (law : ∀ vs, All2 (Ro P h00 1) ts vs → ∃ h', env f vs h00 = some (.bool true, h')) : Calls P f args W fun e W' => e = .returned (.bool true) ∧ RowKit.Below W.heap.size W W' := by
  obtain ⟨vs, U, o⟩ := openS hT ok (fun j t v a b => hv j t v a (by simpa using b)) (fun n hn => by
    have := List.all_eq_true.1 hs n hn
    simpa using this) (fun _ => none) h00
  obtain ⟨h', he⟩ := law vs o
  obtain ⟨_, hc⟩ := E f vs h00 _ _ he
  have := hc _ W args.toList (St_h00 W) U
  simp only [Array.toArray_toList] at this
  refine Calls.mono this ?_
  rintro e W' ⟨v', rfl, M', S', X', hv'⟩
  rw [hv'.bool]
  refine ⟨rfl, X'.os, X'.tape, X'.out, X'.sz, fun c hc => X'.keep c hc fun b x i g hr => ?_⟩
  obtain ⟨es, rfl⟩ := RO_h00 b x g
  exact hr.elim
end
end Go.AM

namespace Go.AM
open Go
variable {P : Program} {tb : Nat → Option Fa}

/-! a function's text in Lean -/
structure Sf where
  f : Env → JT → List V → H → Ans
  p : Env → JT → Nat → List V → H → Ans

def SfOk (P : Program) (tb : Nat → Option Fa) (g : Nat) (s : Sf) : Prop :=
  (∃ an, tb g = some (.plain an) ∧ (∀ env J vs h r, s.f env J vs h = some r → evF P env J g an vs h = some r) ∧ ∀ env J id vs h r, s.p env J id vs h = some r → evP P env J g an id vs h = some r) ∨
  (∃ as ar, tb g = some (.dfr as ar) ∧ ∀ env J vs h r, s.f env J vs h = some r → evD P env (plainF tb) (ressOf P g) ar as (bodyOf P g) (initFr vs) h = some r) ∨
  (∃ f, tb g = some (.spec f) ∧ ∀ env J vs h r, s.f env J vs h = some r → f vs h = some r)

theorem SfOk.plain {g : Nat} {an : An} {s : Sf} (h1 : tb g = some (.plain an)) (h2 : ∀ env J vs h r, s.f env J vs h = some r → evF P env J g an vs h = some r) (h3 : ∀ env J id vs h r, s.p env J id vs h = some r → evP P env J g an id vs h = some r) : SfOk P tb g s := Or.inl ⟨an, h1, h2, h3⟩
theorem SfOk.dfr {g : Nat} {as : List An} {ar : An} {s : Sf} (h1 : tb g = some (.dfr as ar)) (h2 : ∀ env J vs h r, s.f env J vs h = some r → evD P env (plainF tb) (ressOf P g) ar as (bodyOf P g) (initFr vs) h = some r) : SfOk P tb g s := Or.inr (.inl ⟨as, ar, h1, h2⟩)
def Sf.of (f : List V → H → Ans) : Sf := ⟨fun _ _ => f, fun _ _ _ _ _ => none⟩
theorem SfOk.spec {g : Nat} {f : List V → H → Ans} (h1 : tb g = some (.spec f)) : SfOk P tb g (Sf.of f) := Or.inr (.inr ⟨f, h1, fun _ _ _ _ _ h => h⟩)
def SJ (s : Sf) (env : Env) : Nat → JT
  | 0 => fun _ _ _ => none
  | n + 1 => fun id vs h => s.p env (SJ s env n) id vs h
def SN (T : Bt Sf) : Nat → Env
  | 0 => fun _ _ _ => none
  | n + 1 => fun g vs h => match T.get g with | some s => s.f (SN T n) (SJ s (SN T n) n) vs h | none => none

theorem SJ_le {g : Nat} {an : An} (ht : tb g = some (.plain an)) {s : Sf} (hs : ∀ env J id vs h r, s.p env J id vs h = some r → evP P env J g an id vs h = some r) {env : Env} (hle : Le env (Ei P tb)) : ∀ n, Le (SJ s env n) (Ji P tb g an)
  | 0 => fun _ _ _ _ h => by cases h
  | n + 1 => fun id vs h r he => by
    simp only [SJ] at he
    obtain ⟨S, T, q1, q2, q3⟩ := evP_sup (hs _ _ _ _ _ _ he)
    rw [Ji_eq]
    exact q3 _ _ (hle.ok q1) ((SJ_le ht hs hle n).ok q2)

/-- **the texts' machine is the machine** -/
theorem SN_le {T : Bt Sf} (ok : T.All (SfOk P tb)) : ∀ n, Le (SN T n) (Ei P tb)
  | 0 => fun _ _ _ _ h => by cases h
  | n + 1 => fun g vs h r he => by
    simp only [SN] at he
    cases ht : T.get g with
    | none => rw [ht] at he; cases he
    | some s =>
      rw [ht] at he
      simp only at he
      have hle := SN_le ok n
      rcases Bt.get_all ok ht with ⟨an, h1, h2, h3⟩ | ⟨as, ar, h1, h2⟩ | ⟨f, h1, h2⟩
      · obtain ⟨S, T, q1, q2, q3⟩ := evF_sup (h2 _ _ _ _ _ he)
        rw [Ei_eq h1]
        exact q3 _ _ (hle.ok q1) ((SJ_le h1 h3 hle n).ok q2)
      · obtain ⟨S, q1, q3⟩ := evD_sup (h2 _ _ _ _ _ he)
        rw [Ei_eqD h1]
        exact q3 _ (hle.ok q1)
      · rw [Ei_eqS h1]; exact h2 _ _ _ _ _ he
end Go.AM
