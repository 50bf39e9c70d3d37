/- regions that draw their order; deferred calls; the machine without a bound on depth -/
import Derived.Test.YtbgdidfegkmafaaGreatAmB
import Derived.Orders
import Derived.Defers
namespace Go.AM
open Go
variable {P : Program}

/-! one new block: what any number for it may stand for -/
def NewB (P : Program) (M : Inj) (w : World) (x : Blk) (vf : Nat → V) (v' : Value) (w' : World) : Prop :=
  ∃ i o, Ch w w' i.cid o ∧ i.cid = w.heap.size ∧ ∀ (M' : Inj) b, M.le M' → M' b = some i → HB P M' w' b x ∧ VR P M' (vf b) v'

theorem NewB.row {M : Inj} {w : World} {es : List V} {e el : TypeId} {cells : Array Value} {lim : Nat} (hl : es.length ≤ lim) (hc : lim * P.cellsOf e ≤ cells.size)
    (hr : RL P M es (List.replicate es.length e) (cells.toList.take (es.length * P.cellsOf e))) (h0 : 0 < P.cellsOf e) (ht : (tgo P e).isSome) (w' : World) (hw : Ch w w' w.heap.size (.cells cells el (0, 0)))
    {vf : Nat → V} {v' : Value} (hv : ∀ (M' : Inj) b, M' b = some (.row w.heap.size 0 e lim) → VR P M' (vf b) v') : NewB P M w (.row false es) vf v' w' := by
  refine ⟨.row w.heap.size 0 e lim, _, hw, rfl, fun M' b hle hb => ⟨?_, hv M' b hb⟩⟩
  refine ⟨w.heap.size, 0, e, lim, hb, cells, el, 0, 0, hw.at_, hl, by simpa using hc, ?_, by intro _; exact ⟨by omega, by intro o _; omega⟩, h0, ht⟩
  simpa using RL.mono hle _ _ _ hr

theorem NewB.push {M : Inj} {h : H} {w w' : World} (S : St P M h w) {x : Blk} {vf : Nat → V} {v' : Value} (N : NewB P M w x vf v' w') : ∃ M', St P M' (h.push x) w' ∧ Ext M h w M' (h.push x) w' ∧ VR P M' (vf h.next) v' := by
  obtain ⟨i, o, hc, hi, hb⟩ := N
  obtain ⟨q1, q2⟩ := hb (M.add h.next i) h.next (Inj.le_add S.fresh) (Inj.add_self _ _ _)
  obtain ⟨s1, s2⟩ := S.push hc (by omega) q1
  exact ⟨_, s1, s2, q2⟩

theorem var_new {M : Inj} {w : World} (L : Lay P) {e : TypeId} {tg : Option Nat} (ht : tgo P e = some tg) (h0 : P.cellsOf e ≠ 0) {v : V} {v' : Value} (hv : R P M v v'.cells.toList) (ok : okT P v e) :
    ∃ p' w', (do pure (.pointer (some (← newVar e v'))) : Sem Value).run P w = .ok p' w' ∧ NewB P M w (.row false [v]) (fun b => .ptr tg b [0]) p' w' := by
  have hlen := R.len L _ _ _ hv ok
  have hch := Ch.new w (.cells v'.cells e (0, 0))
  refine ⟨_, _, ?_, NewB.row (es := [v]) (e := e) (lim := 1) (by simp) (by simp at hlen ⊢; omega) (by
    simp only [List.length_singleton, List.replicate_one, Nat.one_mul, RL]
    refine ⟨e, [], v'.cells.toList, [], rfl, ?_, ok, hv, rfl, rfl⟩
    rw [List.append_nil, ← hlen, List.take_length]) (by omega) (by rw [ht]; rfl) _ hch (fun M' b hb => ptr_VR hb ht)⟩
  simp [newVar, newRow]

theorem al_new {M : Inj} {w : World} (L : Lay P) {e : TypeId} (h0 : P.cellsOf e ≠ 0) {tg : Option Nat} {z : V} (ht : tgo P e = some tg) (hz : zeroV P e = some z) :
    ∃ p' w', (Instr.alloc e true (.tuple #[])).run P w = .ok p' w' ∧ NewB P M w (.row false [z]) (fun b => .ptr tg b [0]) p' w' := by
  obtain ⟨zv, k1, k2, k3⟩ := zero_snd L M hz
  obtain ⟨p', w', r1, r2⟩ := var_new (M := M) (w := w) L ht h0 k2 k3
  refine ⟨p', w', ?_, r2⟩
  simp only [Instr.alloc, Sem.run_bind, k1, Result.andThen_ok]
  simpa using r1

theorem box_new {M : Inj} {w : World} (L : Lay P) {e : TypeId} (h0 : P.cellsOf e ≠ 0) {tg : Option Nat} {v : V} {v' : Value} (ht : tgo P e = some tg) (hk : tagOk tg v = true) (hv : VU P M v v') :
    ∃ p' w', (Instr.box e v').run P w = .ok p' w' ∧ NewB P M w (.row false [v]) (fun b => .ptr tg b [0]) p' w' := by
  have hv := hv.known (by rintro rfl; cases tg <;> simp [tagOk] at hk)
  obtain ⟨p', w', r1, r2⟩ := var_new (M := M) (w := w) L ht h0 (VR.cells hk hv) ⟨tg, ht, hk⟩
  exact ⟨p', w', by simpa [Instr.box] using r1, r2⟩

theorem map_new {M : Inj} {w : World} {t : TypeId} : ∃ v' w', (Instr.makeMap t none).run P w = .ok v' w' ∧ NewB P M w (.mp []) (fun b => .map b) v' w' := by
  have hch := Ch.new w (.map #[] 0)
  refine ⟨.map (some w.heap.size), _, ?_, .mp w.heap.size, _, hch, rfl, fun M' b _ hb => ⟨⟨w.heap.size, #[], 0, hb, hch.at_, rfl⟩, ?_⟩⟩
  · simp [Instr.makeMap]
  · simp only [VR, R]; exact ⟨_, hb, rfl⟩
theorem bslc_new {M : Inj} {h h' : H} {w : World} (L : Lay P) {t e : TypeId} {te : Option Nat} {b n : Nat} (hel : elT P t = some (e, te, b)) (hn : n * P.cellsOf e ≤ 16777216) {ps : List (Nat × V)} {ps' : Array (Nat × Value)} {r : V}
    (he : bslc (some (e, te, b)) (zeroV P e) n ps h = some (r, h')) (hp : PR P M ps ps'.toList) :
    ∃ es, (∀ h2, bslc (some (e, te, b)) (zeroV P e) n ps h2 = some (.slc te h2.next [] 0 n true, h2.push (.row false es))) ∧ ∃ v' w', (Instr.buildSlice t n ps').run P w = .ok v' w' ∧ NewB P M w (.row false es) (fun b => .slc te b [] 0 n true) v' w' := by
  obtain ⟨hd, hte, h0, rfl⟩ := elT_snd hel
  have hu := desc_und hd
  unfold bslc at he
  split at he <;> try contradiction
  rename_i e1 te1 b1 z heq hz
  simp only [Option.some.injEq, Prod.mk.injEq] at heq
  obtain ⟨rfl, rfl, rfl⟩ := heq
  split at he <;> try contradiction
  rename_i es hs
  simp only [Option.some.injEq, Prod.mk.injEq] at he
  clear he
  refine ⟨es, fun h2 => by simp [bslc, hz, hs], ?_⟩
  obtain ⟨zv, k1, k2, k3⟩ := zero_snd L M hz
  have hzl := R.len L _ _ _ k2 k3
  have hzs : zv.cells.size = P.cellsOf e := by simpa using hzl
  let z0 : Array Value := if n * P.cellsOf e = 0 then #[] else zv.cells
  have hz0 : ((Array.range (n * P.cellsOf e)).map (fun i => z0[i % z0.size]!)).toList = (List.replicate n zv.cells.toList).flatten := by
    by_cases hc : n * P.cellsOf e = 0
    · have : n = 0 := by rcases Nat.mul_eq_zero.1 hc with h | h; exact h; exact absurd h h0
      subst this; simp
    · have : z0 = zv.cells := by simp [z0, hc]
      rw [this, ← hzs]; exact zeros_eq _ _
  have hrep := RL.replicate k2 k3 n
  rw [← hz0] at hrep
  obtain ⟨cells', f1, f2⟩ := setParts_snd L (place := fun i => some (i * P.cellsOf e, P.cellsOf e)) (by
    intro i t' hi
    rw [List.getElem?_replicate] at hi
    split at hi <;> try contradiction
    rename_i hlt
    injection hi with hi; subst hi
    rw [sum_replicate _ _ _ _ (Nat.le_of_lt hlt)]) hp hs hrep
  have hlen : es.length = n := by rw [RL.length f2]; simp
  have hcl := RL.len L _ _ _ f2
  have hsum : ((List.replicate n e).map P.cellsOf).sum = n * P.cellsOf e := by
    have := sum_replicate n e P.cellsOf n (Nat.le_refl _)
    rwa [List.take_of_length_le (by simp)] at this
  rw [hsum] at hcl
  have hcs : cells'.size = n * P.cellsOf e := by simpa using hcl
  have nb := NewB.row (P := P) (M := M) (w := w) (es := es) (e := e) (lim := n) (cells := cells') (el := e) (by omega) (by omega) (by
    rw [hlen, List.take_of_length_le (by simp; omega)]; exact f2) (by omega) (by rw [hte]; rfl) _ (Ch.new w (.cells cells' e (0, 0))) (vf := fun b => .slc te b [] 0 n true) (v' := .slice (some ⟨w.heap.size, 0, none⟩) n n) (fun M' b hb => by
      have := slc_VR (P := P) (M := M') (s := 0) (n := n) (cap := n) (x := true) hb hte (Nat.le_refl _) (by omega) (fun _ => rfl)
      simpa using this)
  refine ⟨.slice (some ⟨w.heap.size, 0, none⟩) n n, _, ?_, nb⟩
  · simp only [Instr.buildSlice, Sem.run_bind, run_underlying hu, Result.andThen_ok, run_size hte, Sem.run_ite]
    have h2 : ¬ (n * P.cellsOf e > 2 ^ 24) := by omega
    rw [if_neg h2]
    simp only [Result.andThen_ok, Sem.run_pure]
    by_cases hc : n * P.cellsOf e = 0
    · have hz1 : z0 = #[] := by simp [z0, hc]
      rw [hz1] at f1
      rw [if_pos hc, f1]
      simp only [newRow, Sem.run_bind, run_newObj, Sem.run_pure, Result.andThen_ok]
    · have hz1 : z0 = zv.cells := by simp [z0, hc]
      rw [hz1] at f1
      rw [if_neg hc, k1]
      simp only [Result.andThen_ok, f1, newRow, Sem.run_bind, run_newObj, Sem.run_pure]

theorem mslc_new {M : Inj} {h h' : H} {w : World} (L : Lay P) {t e : TypeId} {te : Option Nat} {b : Nat} (hel : elT P t = some (e, te, b)) {l c r : V} {l' c' : Value}
    (he : mslc (some (e, te, b)) (zeroV P e) l c h = some (r, h')) (hl : VU P M l l') (hc : VU P M c c') :
    ∃ z n m, l = .int .i64 n ∧ c = .int .i64 m ∧ zeroV P e = some z ∧ (∀ h2, mslc (some (e, te, b)) (zeroV P e) l c h2 = some (.slc te h2.next [] 0 n.toNat (n == m), h2.push (.row false (List.replicate n.toNat z)))) ∧ ∃ v' w', (Instr.makeSlice t l' c').run P w = .ok v' w' ∧ NewB P M w (.row false (List.replicate n.toNat z)) (fun b => .slc te b [] 0 n.toNat (n == m)) v' w' := by
  obtain ⟨hd, hte, h0, rfl⟩ := elT_snd hel
  have hu := desc_und hd
  unfold mslc at he
  split at he <;> try contradiction
  rename_i e1 te1 b1 z n m heq hz
  simp only [Option.some.injEq, Prod.mk.injEq] at heq
  obtain ⟨rfl, rfl, rfl⟩ := heq
  have := hl.int; subst this
  have := hc.int; subst this
  replace he := cond_none he
  obtain ⟨h1, he⟩ := he
  clear he
  refine ⟨z, n, m, rfl, rfl, hz, fun h2 => by simp only [mslc, hz, h1, cond_false], ?_⟩
  simp only [Bool.or_eq_false_iff, decide_eq_false_iff_not, Bool.not_eq_false', ble_eq, decide_eq_true_eq] at h1
  obtain ⟨⟨⟨hn, hmn⟩, hm⟩, hby⟩ := h1
  obtain ⟨zv, k1, k2, k3⟩ := zero_snd L M hz
  have hzl := R.len L _ _ _ k2 k3
  have hzs : zv.cells.size = P.cellsOf e := by simpa using hzl
  have wn : IntKind.i64.wrap n = n := by unfold IntKind.wrap; simp [IntKind.bits, IntKind.signed]; omega
  have wm : IntKind.i64.wrap m = m := by unfold IntKind.wrap; simp [IntKind.bits, IntKind.signed]; omega
  obtain ⟨ie, hie⟩ := tgo_info hte
  have hbytes : P.bytesOf e = ie.bytes := by simp [Program.bytesOf, hie]
  have hcells : P.cellsOf e = ie.size := by simp [Program.cellsOf, hie]
  let z0 : Array Value := if m.toNat * P.cellsOf e = 0 then #[] else zv.cells
  have hz0 : ((Array.range (m.toNat * P.cellsOf e)).map (fun i => z0[i % z0.size]!)).toList = (List.replicate m.toNat zv.cells.toList).flatten := by
    by_cases hc : m.toNat * P.cellsOf e = 0
    · have : m.toNat = 0 := by rcases Nat.mul_eq_zero.1 hc with h | h; exact h; exact absurd h h0
      rw [this]; simp
    · have : z0 = zv.cells := by simp [z0, hc]
      rw [this, ← hzs]; exact zeros_eq _ _
  have hlenl : ((List.replicate m.toNat zv.cells.toList).flatten).take (n.toNat * P.cellsOf e) = (List.replicate n.toNat zv.cells.toList).flatten := by
    have hle : n.toNat ≤ m.toNat := by omega
    obtain ⟨k, hk⟩ := Nat.exists_eq_add_of_le hle
    rw [hk, ← List.replicate_append_replicate, List.flatten_append]
    have hl2 : ((List.replicate n.toNat zv.cells.toList).flatten).length = n.toNat * P.cellsOf e := by
      simp [List.length_flatten, hzs]
    rw [← hl2, List.take_left']
    rfl
  have nb := NewB.row (P := P) (M := M) (w := w) (es := List.replicate n.toNat z) (e := e) (lim := m.toNat) (cells := (Array.range (m.toNat * P.cellsOf e)).map (fun i => z0[i % z0.size]!)) (el := e) (by simp; omega) (by simp) (by
    rw [hz0, List.length_replicate, hlenl]; exact RL.replicate k2 k3 _) (by omega) (by rw [hte]; rfl) _ (Ch.new w (.cells _ e (0, 0))) (vf := fun b => .slc te b [] 0 n.toNat (n == m)) (v' := .slice (some ⟨w.heap.size, 0, none⟩) n.toNat m.toNat) (fun M' b hb => by
      have := slc_VR (P := P) (M := M') (s := 0) (n := n.toNat) (cap := m.toNat) (x := n == m) hb hte (by omega) (by omega) (by intro hx; have := eq_of_beq hx; subst this; rfl)
      simpa using this)
  refine ⟨.slice (some ⟨w.heap.size, 0, none⟩) n.toNat m.toNat, _, ?_, nb⟩
  · simp only [Instr.makeSlice, Sem.run_bind, run_underlying hu, Result.andThen_ok, asInt, asIntOf, Sem.run_pure, run_typeInfo w hie, wn, wm]
    have hbn : (ie.bytes : Int) * m ≤ 2 ^ 48 := by
      have h3 : ((m.toNat * ie.bytes : Nat) : Int) ≤ ((281474976710656 : Nat) : Int) := Int.ofNat_le.2 (hbytes ▸ hby)
      rw [Int.natCast_mul, Int.toNat_of_nonneg (by omega)] at h3
      have h4 : (2 : Int) ^ 48 = ((281474976710656 : Nat) : Int) := by rfl
      rw [h4, Int.mul_comm]; exact h3
    have c1 : ¬ ((decide (m < 0) || decide ((ie.bytes : Int) * m > 2 ^ 48) || decide (n < 0) || decide (n > m)) = true) := by
      simp only [Bool.or_eq_true, decide_eq_true_eq]; omega
    rw [if_neg c1]
    simp only [Sem.run_bind, Sem.run_pure, Result.andThen_ok, run_askRoom, run_size hte, Sem.run_ite]
    by_cases hc : m.toNat * P.cellsOf e = 0
    · have hz1 : z0 = #[] := by simp [z0, hc]
      rw [if_pos hc]
      simp only [newRow, Sem.run_bind, run_newObj, Sem.run_pure, Result.andThen_ok, hz1]
    · have hz1 : z0 = zv.cells := by simp [z0, hc]
      rw [if_neg hc, k1]
      simp only [Result.andThen_ok, newRow, Sem.run_bind, run_newObj, Sem.run_pure, hz1]

mutual
theorem V.same_eq : ∀ {a b : V}, V.same a b = true → a = b := by
  intro a b h
  cases a <;> cases b <;> simp only [V.same, Bool.false_eq_true, Bool.and_eq_true, beq_iff_eq, beq_eq, decide_eq_true_eq] at h <;> first
    | rfl
    | (rw [h]; done)
    | (rw [tgEq_eq h]; done)
    | (obtain ⟨h1, h2⟩ := h; rw [h1, h2]; done)
    | (obtain ⟨⟨h1, h2⟩, h3⟩ := h; rw [tgEq_eq h1, h2, h3]; done)
    | (obtain ⟨⟨⟨⟨⟨h1, h2⟩, h3⟩, h4⟩, h5⟩, h6⟩ := h; rw [tgEq_eq h1, h2, h3, h4, h5, h6]; done)
    | (obtain ⟨⟨h1, h2⟩, h3⟩ := h; rw [h1, V.sames_eq h2, V.sames_eq h3]; done)
    | (obtain ⟨h1, h2⟩ := h; rw [h1, V.sames_eq h2]; done)
    | (rw [V.sames_eq h]; done)
theorem V.sames_eq : ∀ {a b : List V}, V.sames a b = true → a = b
  | [], [], _ => rfl
  | [], _ :: _, h => by simp [V.sames] at h
  | _ :: _, [], h => by simp [V.sames] at h
  | a :: r, b :: q, h => by
    simp only [V.sames, Bool.and_eq_true] at h
    rw [V.same_eq h.1, V.sames_eq h.2]
end

theorem s2b_new {M : Inj} {w : World} (L : Lay P) {s d : TypeId} {l : List UInt8} {x' : Value} (hk : cvKind P s d = .s2b) (hx : VU P M (.str l) x') :
    ∃ v' w', (convert s d x').run P w = .ok v' w' ∧ NewB P M w (.row false (strEl l)) (fun b => .slc none b [] 0 l.length false) v' w' := by
    obtain ⟨e, u1, u2, u3⟩ := cvKind_s2b hk
    have := hx.str; subst this
    have hte : tgo P e = some none := by unfold tgo; rw [u3]
    have h1 := L.one _ hte
    let nc := (Question.appendCap l.length 0 e).cut (w.tape w.drawn (.appendCap l.length 0 e))
    have hnc : l.length ≤ nc := by simp [nc, Question.cut]
    let cells : Array Value := (l.toArray.map fun b => Value.int .u8 (b.toNat : Int)) ++ Array.replicate (nc - l.length) (Value.int .u8 0)
    have hcs : cells.size = nc := by simp [cells]; omega
    let w1 : World := { w with drawn := w.drawn + 1, heap := w.heap.push (.cells cells e) }
    let w2 : World := w1.freeze ⟨w.heap.size, cells.size, none⟩ 1
    have hget1 : w1.heap[w.heap.size]? = some (.cells cells e (0, 0)) := by simp [w1]
    have hch : Ch w w2 w.heap.size (.cells cells e (cells.size, cells.size + 1)) := by
      refine ⟨?_, ?_, ?_, rfl, rfl, rfl⟩
      · simp only [w2, World.freeze, w1]
        rw [if_neg (by simp), Array.getElem?_modify, if_pos rfl]
        simp
      · intro c' hc'
        simp [w2, World.freeze, w1, Array.getElem?_modify, Ne.symm hc', Array.getElem?_push, hc']
      · simp [w2, World.freeze, w1]
    have hrl : ∀ (M : Inj) (l : List UInt8), RL P M (strEl l) (List.replicate (strEl l).length e) (l.map fun b => Value.int .u8 (b.toNat : Int)) := by
      intro M l
      induction l with
      | nil => simp [strEl, RL]
      | cons b l ih =>
        simp only [strEl, List.map_cons, List.length_cons, List.replicate_succ, RL]
        exact ⟨e, _, [.int .u8 b.toNat], _, rfl, rfl, ⟨none, hte, rfl⟩, by simp [R], by simpa [strEl] using ih⟩
    have hlen : (strEl l).length = l.length := by simp [strEl]
    have nb : NewB P M w (.row false (strEl l)) (fun b => .slc none b [] 0 l.length false) (.slice (some ⟨w.heap.size, 0, none⟩) l.length nc) w2 := by
      refine ⟨.row w.heap.size 0 e nc, _, hch, rfl, fun M' b _ hb => ⟨?_, by
        have := slc_VR (P := P) (M := M') (s := 0) (n := l.length) (cap := nc) (x := false) hb hte hnc (by omega) (fun h => by cases h)
        simpa using this⟩⟩
      refine ⟨w.heap.size, 0, e, nc, hb, cells, e, cells.size, cells.size + 1, hch.at_, by rw [hlen]; exact hnc, by rw [h1, hcs]; omega, ?_, by intro _; exact ⟨by omega, by intro o ho; omega⟩, by omega, by rw [hte]; rfl⟩
      have := row_take L (hrl M' l) (List.replicate (nc - l.length) (Value.int .u8 0))
      simpa [cells] using this
    refine ⟨.slice (some ⟨w.heap.size, 0, none⟩) l.length nc, w2, ?_, nb⟩
    · simp only [convert, Sem.run_bind, run_underlying u1, run_underlying u2, Result.andThen_ok, run_underlying (desc_und u3), Conv.stringToBytes, run_choose, Question.forced, Bool.false_eq_true, if_false, newRow, run_newObj, Sem.run_pure, size_mk, markStringish, run_shape]
      have hsh : ({ w with drawn := w.drawn + 1, heap := w.heap.push (.cells cells e) } : World).shape? w.heap.size = some (e, cells.size) := by
        show w1.shape? w.heap.size = _
        simp only [World.shape?, hget1]
      have hc2 : (Array.map (fun b => Value.int IntKind.u8 ↑b.toNat) l.toArray ++ Array.replicate (nc - l.length) (Value.int IntKind.u8 0)) = cells := rfl
      rw [hc2, hsh]
      rfl
end Go.AM

namespace Go.AM
open Go
variable {P : Program}

/-- allocating operations -/
def isA (P : Program) : Op → Bool
  | .alloc _ => true
  | .box _ _ => true
  | .buildSlice _ _ _ => true
  | .makeMap _ none => true
  | .makeSlice _ _ _ => true
  | .convert s d _ => (match cvKind P s d with | .s2b => true | _ => false)
  | _ => false

theorem OpS.new {M : Inj} {w : World} {s : Sem Value} {x : Blk} {vf : Nat → V} (h : ∃ v' w', s.run P w = .ok v' w' ∧ NewB P M w x vf v' w') : OpS P (do pure (.value (← s))) w (NewB P M w x vf) := by
  obtain ⟨v', w', h1, h2⟩ := h
  exact OpS.value h1 h2

theorem evA_snd {env : Env} (L : Lay P) {o : Oper} (hA : isA P o.op = true) {fr : Fr} {h : H} {k : V → H → Ans} {r : V × H} (he : evOp P env o.op fr h k = some r) :
    ∃ vf x, (∀ h2 k2, evOp P env o.op fr h2 k2 = k2 (vf h2.next) (h2.push x)) ∧ ∀ a w M, Fit P M fr a → OpS P (execOp a.eval o) w (NewB P M w x vf) := by
  obtain ⟨dst, op, ty, pos, af, g⟩ := o
  cases op <;> simp only [isA, Bool.false_eq_true] at hA
  case alloc e =>
    simp only [evOp] at he ⊢
    replace he := cond_none he
    obtain ⟨h0, he⟩ := he
    obtain ⟨v, h1, h2, h3⟩ := bnd2_some he
    unfold al at h2
    split at h2 <;> try contradiction
    rename_i tg z ht hz
    refine ⟨fun b => .ptr tg b [0], .row false [z], fun h2 k2 => ?_, fun a w M F => OpS.new (al_new L (by rw [beq_eq] at h0; simpa using h0) ht hz)⟩
    rw [h0, cond_false, ht, hz]; rfl
  case box e y =>
    simp only [evOp] at he ⊢
    replace he := cond_none he
    obtain ⟨h0, he⟩ := he
    obtain ⟨v, h1, h2, h3⟩ := bnd2_some he
    unfold box at h2
    split at h2 <;> try contradiction
    rename_i tg ht
    replace h2 := cond_some h2
    obtain ⟨hk, h2⟩ := h2
    refine ⟨fun b => .ptr tg b [0], .row false [evO fr y], fun h2 k2 => ?_, fun a w M F => OpS.new (box_new L (by rw [beq_eq] at h0; simpa using h0) ht hk (evO_VU F y))⟩
    rw [h0, cond_false, ht]; simp only [box, hk, cond_true]; rfl
  case buildSlice t n ps =>
    simp only [evOp] at he ⊢
    cases hel : elT P t with
    | none => rw [hel] at he; cases he
    | some q =>
      obtain ⟨e, te, b⟩ := q
      rw [hel] at he
      replace he := cond_some he
      obtain ⟨hn, he⟩ := he
      obtain ⟨v, h1, h2, h3⟩ := bnd2_some he
      have hn' : n * P.cellsOf e ≤ 16777216 := by rw [ble_eq] at hn; simpa using hn
      have hex : ∃ es, ∀ h2 : H, bslc (some (e, te, b)) (zeroV P e) n (ps.toList.map fun (i, x) => (i, evO fr x)) h2 = some (.slc te h2.next [] 0 n true, h2.push (.row false es)) := by
        unfold bslc at h2 ⊢
        split at h2 <;> try contradiction
        rename_i z hq hz
        split at h2 <;> try contradiction
        rename_i es hs
        simp only [Option.some.injEq, Prod.mk.injEq] at hq
        obtain ⟨_, rfl, _⟩ := hq
        exact ⟨es, fun h2 => by simp [hs]⟩
      obtain ⟨es, hes⟩ := hex
      refine ⟨fun b => .slc te b [] 0 n true, .row false es, fun h2 k2 => ?_, fun a w M F => ?_⟩
      · simp only [hn, cond_true, hes]; rfl
      · obtain ⟨es2, q1, q2⟩ := bslc_new (M := M) (w := w) L hel hn' h2 (ps' := ps.map fun (i, x) => (i, a.eval x)) (by rw [Array.toList_map]; exact PR.map F _)
        have := (hes h).symm.trans (q1 h)
        simp only [Option.some.injEq, Prod.mk.injEq, H.push] at this
        have he2 : es = es2 := by
          have h5 : (h.push (.row false es)).get h.next = (h.push (.row false es2)).get h.next := by simp only [H.push]; rw [this.2]
          rw [H.get_push, H.get_push] at h5
          simpa using h5
        subst he2
        exact OpS.new q2
  case makeMap t y =>
    cases y with
    | some y => cases hA
    | none => exact ⟨fun b => .map b, .mp [], fun h2 k2 => rfl, fun a w M F => OpS.new map_new⟩
  case makeSlice t l c =>
    simp only [evOp] at he ⊢
    cases hel : elT P t with
    | none => rw [hel] at he; cases he
    | some q =>
      obtain ⟨e, te, b⟩ := q
      rw [hel] at he
      obtain ⟨v, h1, h2, h3⟩ := bnd2_some he
      have hex : ∃ z n m, evO fr l = .int .i64 n ∧ evO fr c = .int .i64 m ∧ zeroV P e = some z ∧ ∀ h2 : H, mslc (some (e, te, b)) (zeroV P e) (evO fr l) (evO fr c) h2 = some (.slc te h2.next [] 0 n.toNat (n == m), h2.push (.row false (List.replicate n.toNat z))) := by
        generalize hl : evO fr l = vl at h2 ⊢
        generalize hc : evO fr c = vc at h2 ⊢
        unfold mslc at h2
        split at h2 <;> try contradiction
        rename_i z n m hq hz
        replace h2 := cond_none h2
        obtain ⟨hb, _⟩ := h2
        simp only [Option.some.injEq, Prod.mk.injEq] at hq
        obtain ⟨rfl, rfl, rfl⟩ := hq
        exact ⟨z, n, m, rfl, rfl, hz, fun h2 => by simp only [mslc, hz, hb, cond_false]⟩
      obtain ⟨z, n, m, e1, e2, e3, hes⟩ := hex
      refine ⟨fun b => .slc te b [] 0 n.toNat (n == m), .row false (List.replicate n.toNat z), fun h2 k2 => ?_, fun a w M F => ?_⟩
      · simp only [hes]; rfl
      · obtain ⟨z2, n2, m2, f1, f2, f3, _, q2⟩ := mslc_new (M := M) (w := w) L hel h2 (evO_VU F l) (evO_VU F c)
        rw [e1] at f1; rw [e2] at f2; rw [e3] at f3
        injection f1 with _ f1; injection f2 with _ f2; injection f3 with f3
        subst f1 f2 f3
        exact OpS.new q2
  case convert s d y =>
    cases hk : cvKind P s d <;> rw [hk] at hA <;> simp only [Bool.false_eq_true] at hA
    simp only [evOp, hk] at he ⊢
    obtain ⟨v, h1, h2, h3⟩ := bnd2_some he
    unfold conv at h2
    simp only at h2
    split at h2 <;> try contradiction
    rename_i l hl
    refine ⟨fun b => .slc none b [] 0 l.length false, .row false (strEl l), fun h2 k2 => ?_, fun a w M F => ?_⟩
    · simp only [conv, hl]; rfl
    · have hv := evO_VU F y
      rw [hl] at hv
      exact OpS.new (s2b_new L hk hv)
end Go.AM

namespace Go.AM
open Go
variable {P : Program}

/-! values whose blocks have numbers below a bound -/
mutual
def Bd (N : Nat) : V → Prop
  | .ptr _ b _ => b < N
  | .slc _ b _ _ _ _ => b < N
  | .map b => b < N
  | .fn _ a c => Bds N a ∧ Bds N c
  | .agg _ cs => Bds N cs
  | .tup cs => Bds N cs
  | .unk => True
  | .undef => True
  | .bool _ => True
  | .int _ _ => True
  | .str _ => True
  | .nilp => True
  | .nils => True
  | .slz _ => True
  | .nilm => True
  | .nilf => True
  | .nili => True
def Bds (N : Nat) : List V → Prop
  | [] => True
  | v :: vs => Bd N v ∧ Bds N vs
end

mutual
theorem R.bd {M : Inj} {N : Nat} (hd : ∀ b i, M b = some i → b < N) : ∀ (v : V) (c : List Value), R P M v c → Bd N v
  | .unk, _ => fun _ => by simp only [Bd]
  | .undef, _ | .bool _, _ | .int _ _, _ | .str _, _ | .nilp, _ | .nils, _ | .slz _, _ | .nilm, _ | .nilf, _ | .nili, _ => fun _ => by simp only [Bd]
  | .ptr _ _ _, _ => by
    simp only [R, Bd]
    rintro ⟨cb, base, e, lim, i, q, o, t, hM, _⟩
    exact hd _ _ hM
  | .slc _ _ _ _ _ _, _ => by
    simp only [R, Bd]
    rintro ⟨cb, base, e, lim, bo, e', lim', ad, cap, hM, _⟩
    exact hd _ _ hM
  | .map _, _ => by
    simp only [R, Bd]
    rintro ⟨cb, hM, _⟩
    exact hd _ _ hM
  | .fn _ a b, _ => by
    simp only [R, Bd]
    rintro ⟨a', b', _, ha, hb⟩
    exact ⟨RVs.bd hd a _ ha, RVs.bd hd b _ hb⟩
  | .agg _ cs, _ => by
    simp only [R, Bd]
    rintro ⟨_, hl⟩
    exact RL.bd hd cs _ _ hl
  | .tup vs, _ => by
    simp only [R, Bd]
    rintro ⟨vs', _, hv⟩
    exact RVs.bd hd vs _ hv
theorem RL.bd {M : Inj} {N : Nat} (hd : ∀ b i, M b = some i → b < N) : ∀ (vs : List V) (ts : List TypeId) (c : List Value), RL P M vs ts c → Bds N vs
  | [], _, _ => fun _ => by simp only [Bds]
  | v :: vs, _, _ => by
    simp only [RL, Bds]
    rintro ⟨t, ts', c1, c2, _, _, _, hv, hl⟩
    exact ⟨R.bd hd v _ hv, RL.bd hd vs _ _ hl⟩
theorem RVs.bd {M : Inj} {N : Nat} (hd : ∀ b i, M b = some i → b < N) : ∀ (vs : List V) (c : List Value), RVs P M vs c → Bds N vs
  | [], _ => fun _ => by simp only [Bds]
  | v :: vs, _ => by
    simp only [RVs, Bds]
    rintro ⟨v', c', _, hv, hl⟩
    refine ⟨?_, RVs.bd hd vs _ hl⟩
    have hm := R.bd hd v
    cases v <;> first
      | exact hm _ hv
      | (obtain ⟨cells, _, hr⟩ := hv; exact hm _ hr)
end

mutual
theorem R.to {M M' : Inj} {N : Nat} (h : ∀ b i, b < N → M b = some i → M' b = some i) : ∀ (v : V) (c : List Value), Bd N v → R P M v c → R P M' v c
  | .unk, _ => fun _ => id
  | .undef, _ | .bool _, _ | .int _ _, _ | .str _, _ | .nilp, _ | .nils, _ | .slz _, _ | .nilm, _ | .nilf, _ | .nili, _ => fun _ => by simp only [R]; exact id
  | .ptr _ _ _, _ => by
    simp only [R, Bd]
    rintro hb ⟨cb, base, e, lim, i, q, o, t, hM, r⟩
    exact ⟨cb, base, e, lim, i, q, o, t, h _ _ hb hM, r⟩
  | .slc _ _ _ _ _ _, _ => by
    simp only [R, Bd]
    rintro hb ⟨cb, base, e, lim, bo, e', lim', ad, cap, hM, r⟩
    exact ⟨cb, base, e, lim, bo, e', lim', ad, cap, h _ _ hb hM, r⟩
  | .map _, _ => by
    simp only [R, Bd]
    rintro hb ⟨cb, hM, r⟩
    exact ⟨cb, h _ _ hb hM, r⟩
  | .fn _ a b, _ => by
    simp only [R, Bd]
    rintro ⟨k1, k2⟩ ⟨a', b', e, ha, hb⟩
    exact ⟨a', b', e, RVs.to h a _ k1 ha, RVs.to h b _ k2 hb⟩
  | .agg _ cs, _ => by
    simp only [R, Bd]
    rintro hb ⟨ht, hl⟩
    exact ⟨ht, RL.to h cs _ _ hb hl⟩
  | .tup vs, _ => by
    simp only [R, Bd]
    rintro hb ⟨vs', e, hv⟩
    exact ⟨vs', e, RVs.to h vs _ hb hv⟩
theorem RL.to {M M' : Inj} {N : Nat} (h : ∀ b i, b < N → M b = some i → M' b = some i) : ∀ (vs : List V) (ts : List TypeId) (c : List Value), Bds N vs → RL P M vs ts c → RL P M' vs ts c
  | [], _, _ => fun _ => by simp only [RL]; exact id
  | v :: vs, _, _ => by
    simp only [RL, Bds]
    rintro ⟨k1, k2⟩ ⟨t, ts', c1, c2, e1, e2, ok, hv, hl⟩
    exact ⟨t, ts', c1, c2, e1, e2, ok, R.to h v _ k1 hv, RL.to h vs _ _ k2 hl⟩
theorem RVs.to {M M' : Inj} {N : Nat} (h : ∀ b i, b < N → M b = some i → M' b = some i) : ∀ (vs : List V) (c : List Value), Bds N vs → RVs P M vs c → RVs P M' vs c
  | [], _ => fun _ => by simp only [RVs]; exact id
  | v :: vs, _ => by
    simp only [RVs, Bds]
    rintro ⟨k1, k2⟩ ⟨v', c', e, hv, hl⟩
    refine ⟨v', c', e, ?_, RVs.to h vs _ k2 hl⟩
    have hm := fun c => R.to h v c k1
    cases v <;> first
      | exact hm _ hv
      | (obtain ⟨cells, e, hr⟩ := hv; exact ⟨cells, e, hm _ hr⟩)
end

theorem VR.bd {M : Inj} {N : Nat} (hd : ∀ b i, M b = some i → b < N) {v : V} {v' : Value} (hv : VR P M v v') : Bd N v := by
  have hm := R.bd (P := P) hd v
  cases v <;> simp only [VR] at hv <;> first
    | exact hm _ hv
    | (obtain ⟨cells, e, hr⟩ := hv; exact hm _ hr)
theorem VR.to {M M' : Inj} {N : Nat} (h : ∀ b i, b < N → M b = some i → M' b = some i) {v : V} {v' : Value} (k : Bd N v) (hv : VR P M v v') : VR P M' v v' := by
  have hm := fun c => R.to (P := P) h v c k
  cases v <;> simp only [VR] at hv ⊢ <;> first
    | exact hm _ hv
    | (obtain ⟨cells, e, hr⟩ := hv; exact ⟨cells, e, hm _ hr⟩)
theorem VU.bd {M : Inj} {N : Nat} (hd : ∀ b i, M b = some i → b < N) {v : V} {v' : Value} (hv : VU P M v v') : Bd N v := by
  rcases hv with rfl | hv
  · simp only [Bd]
  · exact hv.bd hd
theorem VU.to {M M' : Inj} {N : Nat} (h : ∀ b i, b < N → M b = some i → M' b = some i) {v : V} {v' : Value} (k : Bd N v) (hv : VU P M v v') : VU P M' v v' := hv.imp id (VR.to h k)

def BdB (N : Nat) : Blk → Prop
  | .row _ es => Bds N es
  | .mp es => ∀ kv ∈ es, Bd N kv.1 ∧ Bd N kv.2

theorem MpR.bd {M : Inj} {N : Nat} (hd : ∀ b i, M b = some i → b < N) : ∀ {l : List (V × V)} {es : List MapEntry}, MpR P M l es → ∀ kv ∈ l, Bd N kv.1 ∧ Bd N kv.2
  | [], _, _, kv, h => by cases h
  | (k, v) :: r, _, hm, kv, h => by
    obtain ⟨e, es', _, h2, h3, h4⟩ := hm
    rcases List.mem_cons.1 h with rfl | h
    · exact ⟨h2.bd hd, h3.bd hd⟩
    · exact MpR.bd hd h4 kv h
theorem MpR.to {M M' : Inj} {N : Nat} (h : ∀ b i, b < N → M b = some i → M' b = some i) : ∀ {l : List (V × V)} {es : List MapEntry}, (∀ kv ∈ l, Bd N kv.1 ∧ Bd N kv.2) → MpR P M l es → MpR P M' l es
  | [], _, _, hm => hm
  | (k, v) :: r, _, hb, hm => by
    obtain ⟨e, es', h1, h2, h3, h4⟩ := hm
    have hk := hb (k, v) (List.mem_cons_self ..)
    exact ⟨e, es', h1, h2.to h hk.1, h3.to h hk.2, MpR.to h (fun kv hkv => hb kv (List.mem_cons_of_mem _ hkv)) h4⟩

theorem HB.bd {M : Inj} {N : Nat} (hd : ∀ b i, M b = some i → b < N) {w : World} {b : Nat} {x : Blk} (h : HB P M w b x) : BdB N x := by
  cases x with
  | row ro es =>
    obtain ⟨c, base, e, lim, h1, cells, el, lo, hi, h2, h3, h4, h5, h6⟩ := h
    exact RL.bd hd _ _ _ h5
  | mp es =>
    obtain ⟨c, entries, clock, h1, h2, h3⟩ := h
    exact MpR.bd hd h3
theorem HB.to {M M' : Inj} {N : Nat} (h : ∀ b i, b < N → M b = some i → M' b = some i) {w : World} {b : Nat} {x : Blk} (hb : b < N) (hx : BdB N x) (hh : HB P M w b x) : HB P M' w b x := by
  cases x with
  | row ro es =>
    obtain ⟨c, base, e, lim, h1, cells, el, lo, hi, h2, h3, h4, h5, h6⟩ := hh
    exact ⟨c, base, e, lim, h _ _ hb h1, cells, el, lo, hi, h2, h3, h4, RL.to h _ _ _ hx h5, h6⟩
  | mp es =>
    obtain ⟨c, entries, clock, h1, h2, h3⟩ := hh
    exact ⟨c, entries, clock, h _ _ hb h1, h2, MpR.to h hx h3⟩

def HBd (h : H) : Prop := ∀ b x, h.get b = some x → BdB h.next x
theorem St.hbd {M : Inj} {h : H} {w : World} (S : St P M h w) : HBd h := fun b x g => (S.blk b x g).bd S.dom

def Inj.cut (M : Inj) (N : Nat) : Inj := fun b => if b < N then M b else none
theorem Inj.cut_some {M : Inj} {N b : Nat} {i : BI} (h : M.cut N b = some i) : b < N ∧ M b = some i := by
  unfold Inj.cut at h
  split at h
  · exact ⟨‹_›, h⟩
  · cases h
theorem Inj.cut_of {M : Inj} {N b : Nat} {i : BI} (hb : b < N) (h : M b = some i) : M.cut N b = some i := by simp [Inj.cut, hb, h]
theorem Inj.cut_le {M : Inj} {N : Nat} : (M.cut N).le M := fun _ _ h => (Inj.cut_some h).2

/-! states with blocks that came up early -/
abbrev Fn := Nat → Option Blk
structure SF (P : Program) (M : Inj) (f : Fn) (w : World) : Prop where
  blk : ∀ b x, f b = some x → HB P M w b x
  exc : ∀ b b' x x' i i', f b = some x → f b' = some x' → b ≠ b' → rw? x → M b = some i → M b' = some i' → i.cid ≠ i'.cid
  cid : ∀ b i, M b = some i → i.cid < w.heap.size

structure XF (M : Inj) (h : H) (w : World) (M' : Inj) (f' : Fn) (w' : World) : Prop where
  le : M.le M'
  sz : w.heap.size ≤ w'.heap.size
  keep : ∀ c, c < w.heap.size → (∀ b x i, h.get b = some x → rw? x → M b = some i → i.cid ≠ c) → w'.heap[c]? = w.heap[c]?
  own : ∀ b x i, f' b = some x → M' b = some i → w.heap.size ≤ i.cid ∨ ∃ b0 x0 i0, h.get b0 = some x0 ∧ (rw? x → rw? x0) ∧ M b0 = some i0 ∧ i0.cid = i.cid
  fr : ∀ b i, M' b = some i → M b = none → h.next ≤ b
  tape : w'.tape = w.tape
  os : w'.os = w.os
  out : w'.output = w.output

theorem SF.of {M : Inj} {h : H} {w : World} (S : St P M h w) : SF P M h.get w := ⟨S.blk, S.exc, S.cid⟩
theorem XF.refl (M : Inj) (h : H) (w : World) : XF M h w M h.get w :=
  ⟨.refl _, Nat.le_refl _, fun _ _ _ => rfl, fun b x i h1 h3 => .inr ⟨b, x, i, h1, id, h3, rfl⟩, fun b i h1 h2 => (by rw [h1] at h2; cases h2), rfl, rfl, rfl⟩

theorem SF.cut {M : Inj} {f : Fn} {w : World} (S : SF P M f w) {hs : H} (hf : ∀ b x, hs.get b = some x → f b = some x) (hb : HBd hs) : St P (M.cut hs.next) hs w where
  blk b x g := (S.blk b x (hf _ _ g)).to (N := hs.next) (fun _ _ h1 h2 => Inj.cut_of h1 h2) (H.get_lt g) (hb _ _ g)
  exc b b' x x' i i' g g' hne hr h1 h2 := S.exc b b' x x' i i' (hf _ _ g) (hf _ _ g') hne hr (Inj.cut_some h1).2 (Inj.cut_some h2).2
  dom _ _ h := (Inj.cut_some h).1
  cid _ _ h := S.cid _ _ (Inj.cut_some h).2

theorem SF.write {M0 : Inj} {h0 : H} {w0 : World} {M : Inj} {f : Fn} {w : World} (S : SF P M f w) (X : XF M0 h0 w0 M f w) {hs h1 : H} (hf : ∀ b, b < hs.next → f b = hs.get b) (h00 : h0.next ≤ hs.next)
    (gap : ∀ b, hs.next ≤ b → b < h1.next → M b = none) {M' : Inj} {w' : World} (S' : St P M' h1 w') (X' : Ext (M.cut hs.next) hs w M' h1 w') :
    SF P (fun b => if b < h1.next then M' b else M b) (fun b => if b < h1.next then h1.get b else f b) w' ∧
    XF M0 h0 w0 (fun b => if b < h1.next then M' b else M b) (fun b => if b < h1.next then h1.get b else f b) w' ∧
    M.le (fun b => if b < h1.next then M' b else M b) ∧ M'.le (fun b => if b < h1.next then M' b else M b) := by
  have hnx := X'.nx
  have hle : M.le (fun b => if b < h1.next then M' b else M b) := by
    intro b i hb
    by_cases e : b < h1.next
    · simp only [e, if_true]
      by_cases e2 : b < hs.next
      · exact X'.le _ _ (Inj.cut_of e2 hb)
      · rw [gap b (by omega) e] at hb; cases hb
    · simp only [e, if_false]; exact hb
  have hle' : M'.le (fun b => if b < h1.next then M' b else M b) := by
    intro b i hb
    have := S'.dom _ _ hb
    simp only [this, if_true]; exact hb
  have hfs : ∀ b x, hs.get b = some x → f b = some x := fun b x g => by rw [hf b (H.get_lt g)]; exact g
  have own1 : ∀ b x i b2 x2 i2, h1.get b = some x → M' b = some i → f b2 = some x2 → M b2 = some i2 → hs.next ≤ b2 → (rw? x ∨ rw? x2) → i.cid ≠ i2.cid := by
    intro b x i b2 x2 i2 g1 g2 k1 k2 hb2 hr
    have hc := S.cid _ _ k2
    rcases X'.own b x i g1 g2 with q | ⟨b0, x0, i0, q1, q2, q3, q4⟩
    · omega
    · have hlt := H.get_lt q1
      rw [← q4]
      rcases hr with hr | hr
      · exact S.exc b0 b2 x0 x2 i0 i2 (hfs _ _ q1) k1 (by omega) (q2 hr) (Inj.cut_some q3).2 k2
      · exact (S.exc b2 b0 x2 x0 i2 i0 k1 (hfs _ _ q1) (by omega) hr k2 (Inj.cut_some q3).2).symm
  refine ⟨⟨?_, ?_, ?_⟩, ⟨X.le.trans hle, Nat.le_trans X.sz X'.sz, ?_, ?_, ?_, X'.tape.trans X.tape, X'.os.trans X.os, X'.out.trans X.out⟩, hle, hle'⟩
  · intro b x g
    by_cases e : b < h1.next
    · simp only [e, if_true] at g
      exact (S'.blk b x g).other hle' fun _ _ => rfl
    · simp only [e, if_false] at g
      refine (S.blk b x g).other hle fun i hi => X'.keep _ (S.cid _ _ hi) fun b0 x0 i0 g1 g2 g3 => ?_
      have := H.get_lt g1
      exact S.exc b0 b x0 x i0 i (hfs _ _ g1) g (by omega) g2 (Inj.cut_some g3).2 hi
  · intro b b' x x' i i' g g' hne hr k k'
    by_cases e : b < h1.next
    · by_cases e' : b' < h1.next
      · simp only [e, e', if_true] at g g' k k'
        exact S'.exc b b' x x' i i' g g' hne hr k k'
      · simp only [e, e', if_true, if_false] at g g' k k'
        exact own1 b x i b' x' i' g k g' k' (by omega) (.inl hr)
    · by_cases e' : b' < h1.next
      · simp only [e, e', if_true, if_false] at g g' k k'
        exact (own1 b' x' i' b x i g' k' g k (by omega) (.inr hr)).symm
      · simp only [e, e', if_false] at g g' k k'
        exact S.exc b b' x x' i i' g g' hne hr k k'
  · intro b i k
    by_cases e : b < h1.next
    · simp only [e, if_true] at k; exact S'.cid _ _ k
    · simp only [e, if_false] at k; exact Nat.lt_of_lt_of_le (S.cid _ _ k) X'.sz
  · intro c hc hn
    rw [X'.keep c (Nat.lt_of_lt_of_le hc X.sz) ?_, X.keep c hc hn]
    intro b0 x i g1 g2 g3 g4
    rcases X.own b0 x i (hfs _ _ g1) (Inj.cut_some g3).2 with g | ⟨b1, x1, i1, k1, k2, k3, k4⟩
    · omega
    · exact hn b1 x1 i1 k1 (k2 g2) k3 (k4.trans g4)
  · intro b x i g k
    by_cases e : b < h1.next
    · simp only [e, if_true] at g k
      rcases X'.own b x i g k with q | ⟨b0, x0, i0, q1, q2, q3, q4⟩
      · exact .inl (Nat.le_trans X.sz q)
      · rcases X.own b0 x0 i0 (hfs _ _ q1) (Inj.cut_some q3).2 with q | ⟨b1, x1, i1, k1, k2, k3, k4⟩
        · exact .inl (q4 ▸ q)
        · exact .inr ⟨b1, x1, i1, k1, fun hx => k2 (q2 hx), k3, k4.trans q4⟩
    · simp only [e, if_false] at g k
      exact X.own b x i g k
  · intro b i k hn
    by_cases e : b < h1.next
    · simp only [e, if_true] at k
      cases hc : M.cut hs.next b with
      | none => exact Nat.le_trans h00 (X'.fr _ _ k hc)
      | some j => exact X.fr _ _ (Inj.cut_some hc).2 hn
    · simp only [e, if_false] at k
      exact X.fr _ _ k hn

/-- a new block under any number that is free -/
theorem SF.new {M0 : Inj} {h0 : H} {w0 : World} {M : Inj} {f : Fn} {w : World} (S : SF P M f w) (X : XF M0 h0 w0 M f w) {x : Blk} {vf : Nat → V} {v' : Value} {w' : World} (N : NewB P M w x vf v' w') {n : Nat} (hn : M n = none) (h0n : h0.next ≤ n) :
    ∃ M', SF P M' (fun b => if b = n then some x else f b) w' ∧ XF M0 h0 w0 M' (fun b => if b = n then some x else f b) w' ∧ M.le M' ∧ (∀ b, b ≠ n → M' b = M b) ∧ VR P M' (vf n) v' := by
  obtain ⟨i, o, hc, hi, hb⟩ := N
  have hle : M.le (M.add n i) := Inj.le_add hn
  have hadd : ∀ b, b ≠ n → M.add n i b = M b := fun b e => by simp [Inj.add, e]
  have hself : ∀ j, M.add n i n = some j → j = i := fun j hj => by rw [Inj.add_self] at hj; injection hj with hj; exact hj.symm
  obtain ⟨q1, q2⟩ := hb (M.add n i) n hle (Inj.add_self _ _ _)
  refine ⟨M.add n i, ⟨?_, ?_, ?_⟩, ⟨X.le.trans hle, Nat.le_trans X.sz hc.sz, ?_, ?_, ?_, hc.tape.trans X.tape, hc.os.trans X.os, hc.out.trans X.out⟩, hle, hadd, q2⟩
  · intro b x0 g
    by_cases e : b = n
    · subst e; simp at g; subst g; exact q1
    · simp [e] at g
      refine (S.blk b x0 g).other hle fun j hj => hc.other _ ?_
      have := S.cid _ _ hj; omega
  · intro b1 b2 x1 x2 i1 i2 g1 g2 hne hr1 hm1 hm2
    by_cases e1 : b1 = n
    · subst e1
      have e2 : b2 ≠ b1 := Ne.symm hne
      rw [hadd _ e2] at hm2
      have := S.cid _ _ hm2
      rw [hself _ hm1]; omega
    · by_cases e2 : b2 = n
      · subst e2
        rw [hadd _ e1] at hm1
        have := S.cid _ _ hm1
        rw [hself _ hm2]; omega
      · simp [e1] at g1; simp [e2] at g2
        rw [hadd _ e1] at hm1; rw [hadd _ e2] at hm2
        exact S.exc b1 b2 x1 x2 i1 i2 g1 g2 hne hr1 hm1 hm2
  · intro b j hj
    by_cases e : b = n
    · subst e; rw [hself _ hj]; exact hc.lt
    · rw [hadd _ e] at hj; exact Nat.lt_of_lt_of_le (S.cid _ _ hj) hc.sz
  · intro c h1 h2
    rw [hc.other c (by have := X.sz; omega), X.keep c h1 h2]
  · intro b x0 j g hj
    by_cases e : b = n
    · subst e; rw [hself _ hj]; have := X.sz; exact .inl (by omega)
    · simp [e] at g; rw [hadd _ e] at hj; exact X.own b x0 j g hj
  · intro b j hj hm
    by_cases e : b = n
    · subst e; exact h0n
    · rw [hadd _ e] at hj; exact X.fr b j hj hm

/-- an operation that looks at no block -/
theorem SF.idle {M0 : Inj} {h0 : H} {w0 : World} {M : Inj} {f : Fn} {w : World} (S : SF P M f w) (X : XF M0 h0 w0 M f w) {N : Nat} {M' : Inj} {w' : World} (S' : St P M' ⟨N, .nil⟩ w') (X' : Ext M ⟨N, .nil⟩ w M' ⟨N, .nil⟩ w') :
    SF P M f w' ∧ XF M0 h0 w0 M f w' ∧ M'.le M := by
  have hk : ∀ c, c < w.heap.size → w'.heap[c]? = w.heap[c]? := fun c hc => X'.keep c hc fun b x i g => by
    have : (H.mk N .nil).get b = none := by simp only [H.get, Tr.get]; cases Nat.blt b N <;> rfl
    rw [this] at g; cases g
  refine ⟨⟨?_, S.exc, ?_⟩, ⟨X.le, Nat.le_trans X.sz X'.sz, ?_, X.own, X.fr, X'.tape.trans X.tape, X'.os.trans X.os, X'.out.trans X.out⟩, ?_⟩
  · intro b x g
    exact (S.blk b x g).other (.refl _) fun i hi => hk _ (S.cid _ _ hi)
  · intro b i hi; exact Nat.lt_of_lt_of_le (S.cid _ _ hi) X'.sz
  · intro c hc hn
    rw [hk c (Nat.lt_of_lt_of_le hc X.sz), X.keep c hc hn]
  · intro b i hi
    cases hm : M b with
    | none =>
      have h1 := X'.fr _ _ hi hm
      have h2 := S'.dom _ _ hi
      simp only at h1 h2; omega
    | some j =>
      have := X'.le _ _ hm
      rw [hi] at this; exact this.symm ▸ rfl
theorem St.nothing {M : Inj} {f : Fn} {w : World} (S : SF P M f w) {N : Nat} (hN : ∀ b i, M b = some i → b < N) : St P M ⟨N, .nil⟩ w := by
  have hg : ∀ b, (H.mk N .nil).get b = none := fun b => by simp only [H.get, Tr.get]; cases Nat.blt b N <;> rfl
  exact ⟨fun b x g => (by rw [hg] at g; cases g), fun b b' x x' i i' g => (by rw [hg] at g; cases g), hN, S.cid⟩
end Go.AM

namespace Go.AM
open Go
variable {P : Program}

/-! classes of operations -/
def isP (P : Program) : Op → Bool
  | .move _ => true
  | .assign _ => true
  | .pick _ _ _ => true
  | .build _ _ => true
  | .unOp _ _ _ => true
  | .makeFunc _ _ _ => true
  | .slice _ _ _ _ _ => true
  | .fieldAddr _ _ _ => true
  | .field _ _ _ => true
  | .indexAddr _ _ _ => true
  | .index _ _ _ => true
  | .extract _ _ => true
  | .nilCheck _ => true
  | .binOp _ _ _ _ _ => true
  | .convert s d _ => (match cvKind P s d with | .int _ => true | .same => true | _ => false)
  | .call c => (match c.callee with
    | .builtin .len => (match c.argTypes[0]? with | some t => (match lnK P t with | .map => false | _ => true) | none => false)
    | .builtin .cap => true
    | .builtin .max => true
    | .builtin .min => true
    | _ => false)
  | _ => false
def isLd (P : Program) : Op → Bool
  | .load _ _ => true
  | .lookup _ _ _ _ => true
  | .convert s d _ => (match cvKind P s d with | .b2s => true | _ => false)
  | .call c => (match c.callee with | .builtin .len => true | _ => false)
  | _ => false
inductive Cl where | a | w | l | p
  deriving DecidableEq
def cls (P : Program) (op : Op) : Cl := bif isA P op then .a else bif isP P op then .p else bif isLd P op then .l else .w

theorem cls_a {op : Op} (h : cls P op = .a) : isA P op = true := by
  unfold cls at h
  cases h1 : isA P op
  · rw [h1] at h; cases h2 : isP P op <;> rw [h2] at h <;> cases h3 : isLd P op <;> simp [h3] at h
  · rfl
theorem cls_not_a {op : Op} (h : cls P op ≠ .a) : isA P op = false := by
  unfold cls at h
  cases h1 : isA P op
  · rfl
  · simp [h1] at h
theorem cls_p {op : Op} (h : cls P op = .p) : isP P op = true := by
  unfold cls at h
  cases h1 : isP P op
  · rw [h1] at h; cases h2 : isA P op <;> rw [h2] at h <;> cases h3 : isLd P op <;> simp [h3] at h
  · rfl
theorem cls_l {op : Op} (h : cls P op = .l) : isLd P op = true := by
  unfold cls at h
  cases h1 : isLd P op
  · rw [h1] at h; cases h2 : isA P op <;> rw [h2] at h <;> cases h3 : isP P op <;> simp [h3] at h
  · rfl

theorem bnd_eq {α : Type} {x : Option α} {v : α} (h : x = some v) (k : α → Ans) : bnd x k = k v := by rw [h]; rfl
theorem bnd2_eq {x : Ans} {v : V} {h : H} (e : x = some (v, h)) (k : V → H → Ans) : bnd2 x k = k v h := by rw [e]; rfl

/-- an operation's continuation plays no part in it -/
theorem evCall_det {env : Env} {c : Call} {fr : Fr} {h : H} {k : V → H → Ans} {r : V × H} (he : evCall P env c fr h k = some r) : ∃ v h1, k v h1 = some r ∧ ∀ k2, evCall P env c fr h k2 = k2 v h1 := by
  unfold evCall at he ⊢
  cases hc : c.callee with
  | value f =>
    simp only [hc] at he ⊢
    obtain ⟨v, h1, h2, h3⟩ := bnd2_some he
    exact ⟨v, h1, h3, fun k2 => bnd2_eq h2 _⟩
  | invoke x m => simp [hc] at he
  | builtin b =>
    simp only [hc] at he ⊢
    cases h0 : c.argTypes[0]? with
    | none => simp [h0] at he
    | some t0 =>
      simp only [h0] at he ⊢
      generalize c.args.toList.map (evO fr) = as at he ⊢
      cases b <;> simp only [reduceCtorEq] at he ⊢
      case len =>
        rcases as with _ | ⟨s, _ | ⟨x, r⟩⟩ <;> simp only [reduceCtorEq] at he ⊢
        obtain ⟨v, h1, h2⟩ := bnd_some he
        exact ⟨v, h, h2, fun k2 => bnd_eq h1 _⟩
      case cap =>
        rcases as with _ | ⟨s, _ | ⟨x, r⟩⟩ <;> simp only [reduceCtorEq] at he ⊢
        obtain ⟨v, h1, h2⟩ := bnd_some he
        exact ⟨v, h, h2, fun k2 => bnd_eq h1 _⟩
      case max =>
        obtain ⟨v, h1, h2⟩ := bnd_some he
        exact ⟨v, h, h2, fun k2 => bnd_eq h1 _⟩
      case min =>
        obtain ⟨v, h1, h2⟩ := bnd_some he
        exact ⟨v, h, h2, fun k2 => bnd_eq h1 _⟩
      case append =>
        cases h1 : c.argTypes[1]? with
        | none => simp [h1] at he
        | some t1 =>
          simp only [h1] at he ⊢
          cases hl : lnK P t1 <;> rcases as with _ | ⟨s, _ | ⟨x, _ | ⟨y, r⟩⟩⟩ <;> simp only [hl, reduceCtorEq] at he ⊢
          case bad.cons.cons.nil =>
            obtain ⟨hi, he⟩ := cond_some he
            rw [hi]
            simp only [cond_true]
            cases he2 : elT P t0 with
            | none => simp [he2] at he
            | some q =>
              obtain ⟨e, te, b⟩ := q
              simp only [he2] at he ⊢
              obtain ⟨v, h1, h2, h3⟩ := bnd2_some he
              exact ⟨v, h1, h3, fun k2 => bnd2_eq h2 _⟩
          all_goals
            cases he2 : elT P t0 with
            | none => simp [he2] at he
            | some q =>
              obtain ⟨e, te, b⟩ := q
              simp only [he2] at he ⊢
              cases hz : (zeroV P e).isSome <;> simp only [hz, cond_true, cond_false, reduceCtorEq] at he ⊢
              obtain ⟨v, h1, h2, h3⟩ := bnd2_some he
              exact ⟨v, h1, h3, fun k2 => bnd2_eq h2 _⟩
      case copy =>
        cases he2 : elT P t0 with
        | none => rcases as with _ | ⟨s, _ | ⟨x, _ | ⟨y, r⟩⟩⟩ <;> simp [he2] at he
        | some q =>
          obtain ⟨e, te, b⟩ := q
          simp only [he2] at he ⊢
          rcases as with _ | ⟨s, _ | ⟨x, _ | ⟨y, r⟩⟩⟩ <;> simp only [reduceCtorEq] at he ⊢
          obtain ⟨v, h1, h2, h3⟩ := bnd2_some he
          exact ⟨v, h1, h3, fun k2 => bnd2_eq h2 _⟩

theorem evOp_det {env : Env} {op : Op} {fr : Fr} {h : H} {k : V → H → Ans} {r : V × H} (he : evOp P env op fr h k = some r) : ∃ v h1, k v h1 = some r ∧ ∀ k2, evOp P env op fr h k2 = k2 v h1 := by
  have b1 : ∀ {x : Option V}, bnd x (fun v => k v h) = some r → ∃ v h1, k v h1 = some r ∧ ∀ k2 : V → H → Ans, bnd x (fun v => k2 v h) = k2 v h1 := by
    intro x he
    obtain ⟨v, h1, h2⟩ := bnd_some he
    exact ⟨v, h, h2, fun k2 => bnd_eq h1 _⟩
  have b2 : ∀ {x : Ans}, bnd2 x k = some r → ∃ v h1, k v h1 = some r ∧ ∀ k2 : V → H → Ans, bnd2 x k2 = k2 v h1 := by
    intro x he
    obtain ⟨v, h1, h2, h3⟩ := bnd2_some he
    exact ⟨v, h1, h3, fun k2 => bnd2_eq h2 _⟩
  have b3 : ∀ {x : Option H}, bnd x (fun h => k .undef h) = some r → ∃ v h1, k v h1 = some r ∧ ∀ k2 : V → H → Ans, bnd x (fun h => k2 .undef h) = k2 v h1 := by
    intro x he
    obtain ⟨v, h1, h2⟩ := bnd_some he
    exact ⟨_, v, h2, fun k2 => bnd_eq h1 _⟩
  cases op <;> simp only [evOp, reduceCtorEq] at he ⊢
  case move x => exact ⟨_, _, he, fun _ => rfl⟩
  case assign x => exact ⟨_, _, he, fun _ => rfl⟩
  case pick => exact b1 he
  case alloc e =>
    cases hb : Nat.beq (P.cellsOf e) 0 <;> simp only [hb, cond_true, cond_false, reduceCtorEq] at he ⊢
    exact b2 he
  case box e x =>
    cases hb : Nat.beq (P.cellsOf e) 0 <;> simp only [hb, cond_true, cond_false, reduceCtorEq] at he ⊢
    exact b2 he
  case build => exact b1 he
  case buildSlice t n ps =>
    cases hel : elT P t with
    | none => simp [hel] at he
    | some q =>
      obtain ⟨e, te, b⟩ := q
      simp only [hel] at he ⊢
      cases hb : Nat.ble (n * P.cellsOf e) 16777216 <;> simp only [hb, cond_true, cond_false, reduceCtorEq] at he ⊢
      exact b2 he
  case load t x =>
    cases ht : tgo P t with
    | none => simp [ht] at he
    | some tg => simp only [ht] at he ⊢; exact b1 he
  case store t x y =>
    cases ht : tgo P t with
    | none => simp [ht] at he
    | some tg => simp only [ht] at he ⊢; exact b3 he
  case nilCheck => exact b1 he
  case binOp op t x y b => cases op <;> simp only at he ⊢ <;> exact b1 he
  case unOp => exact b1 he
  case convert => exact b2 he
  case makeFunc => exact b1 he
  case makeMap t x =>
    cases x with
    | none => exact b2 he
    | some x => simp at he
  case makeSlice t l c =>
    cases hel : elT P t with
    | none => simp [hel] at he
    | some q =>
      obtain ⟨e, te, b⟩ := q
      simp only [hel] at he ⊢
      exact b2 he
  case slice => exact b1 he
  case fieldAddr => exact b1 he
  case field => exact b1 he
  case indexAddr => exact b1 he
  case index => exact b1 he
  case lookup t x i ok =>
    cases hm : mapT P t with
    | none => simp [hm] at he
    | some q =>
      obtain ⟨e, te⟩ := q
      simp only [hm] at he ⊢
      exact b1 he
  case mapUpdate t m i x =>
    cases hm : mapT P t with
    | none => simp [hm] at he
    | some q =>
      obtain ⟨e, te⟩ := q
      simp only [hm] at he ⊢
      exact b3 he
  case extract => exact b1 he
  case call c => exact evCall_det he

/-- operations that look at no block -/
theorem evP_any {env : Env} {op : Op} (hP : isP P op = true) {fr : Fr} {h : H} {k : V → H → Ans} {r : V × H} (he : evOp P env op fr h k = some r) : ∃ v, k v h = some r ∧ ∀ h2 k2, evOp P env op fr h2 k2 = k2 v h2 := by
  have b1 : ∀ {x : Option V}, bnd x (fun v => k v h) = some r → ∃ v, k v h = some r ∧ ∀ (h2 : H) (k2 : V → H → Ans), bnd x (fun v => k2 v h2) = k2 v h2 := by
    intro x he
    obtain ⟨v, h1, h2⟩ := bnd_some he
    exact ⟨v, h2, fun h2 k2 => bnd_eq h1 _⟩
  cases op <;> simp only [isP, Bool.false_eq_true] at hP <;> simp only [evOp] at he ⊢
  case move x => exact ⟨_, he, fun _ _ => rfl⟩
  case assign x => exact ⟨_, he, fun _ _ => rfl⟩
  case binOp op t x y b => cases op <;> simp only at he ⊢ <;> exact b1 he
  case convert s d x =>
    cases hk : cvKind P s d <;> rw [hk] at hP he <;> simp only [Bool.false_eq_true] at hP <;> simp only [conv] at he ⊢
    case int kk =>
      cases hx : evO fr x <;> rw [hx] at he <;> simp only [bnd2, reduceCtorEq] at he ⊢
      exact ⟨_, he, fun _ _ => rfl⟩
    case same =>
      cases hx : evO fr x <;> rw [hx] at he <;> simp only [bnd2, reduceCtorEq] at he ⊢
      exact ⟨_, he, fun _ _ => rfl⟩
  case call c =>
    unfold evCall at he ⊢
    cases hc : c.callee with
    | value f => simp [hc] at hP
    | invoke x m => simp [hc] at hP
    | builtin b =>
      simp only [hc] at he hP ⊢
      cases h0 : c.argTypes[0]? with
      | none => simp [h0] at he
      | some t0 =>
        simp only [h0] at he hP ⊢
        generalize c.args.toList.map (evO fr) = as at he ⊢
        cases b <;> simp only [Bool.false_eq_true] at hP <;> simp only at he ⊢
        case len =>
          rcases as with _ | ⟨s, _ | ⟨x, r⟩⟩ <;> simp only [reduceCtorEq] at he ⊢
          cases hl : lnK P t0 <;> rw [hl] at hP he <;> simp only [Bool.false_eq_true] at hP <;> cases s <;> simp only [lenV, bnd, reduceCtorEq] at he ⊢
          all_goals exact ⟨_, he, fun _ _ => rfl⟩
        case cap =>
          rcases as with _ | ⟨s, _ | ⟨x, r⟩⟩ <;> simp only [reduceCtorEq] at he ⊢
          exact b1 he
        case max => exact b1 he
        case min => exact b1 he
  all_goals exact b1 he

/-- operations that look at blocks, and change none -/
theorem evL_same {env : Env} {op : Op} (hL : isLd P op = true) {fr : Fr} {h : H} {v : V} {h1 : H} (he : ∀ k2, evOp P env op fr h k2 = k2 v h1) : h1 = h := by
  have b1 : ∀ {x : Option V}, (∀ k2 : V → H → Ans, bnd x (fun v => k2 v h) = k2 v h1) → h1 = h := by
    intro x he
    have := he fun v h => some (v, h)
    obtain ⟨u, q1, q2⟩ := bnd_some this
    simp only [Option.some.injEq, Prod.mk.injEq] at q2
    exact q2.2.symm
  cases op <;> simp only [isLd, Bool.false_eq_true] at hL <;> simp only [evOp] at he
  case load t x =>
    cases ht : tgo P t with
    | none => rw [ht] at he; have := he fun v h => some (v, h); cases this
    | some tg => rw [ht] at he; exact b1 he
  case lookup t x i ok =>
    cases hm : mapT P t with
    | none => rw [hm] at he; have := he fun v h => some (v, h); cases this
    | some q => rw [hm] at he; exact b1 he
  case convert s d x =>
    cases hk : cvKind P s d <;> rw [hk] at hL he <;> simp only [Bool.false_eq_true] at hL
    have := he fun v h => some (v, h)
    obtain ⟨u, q0, q1, q2⟩ := bnd2_some this
    simp only [Option.some.injEq, Prod.mk.injEq] at q2
    unfold conv at q1
    simp only at q1
    split at q1 <;> try contradiction
    split at q1 <;> try contradiction
    simp only [Option.some.injEq, Prod.mk.injEq] at q1
    rw [← q2.2, ← q1.2]
  case call c =>
    unfold evCall at he
    cases hc : c.callee with
    | value f => simp [hc] at hL
    | invoke x m => simp [hc] at hL
    | builtin b =>
      simp only [hc] at he hL
      cases h0 : c.argTypes[0]? with
      | none => rw [h0] at he; have := he fun v h => some (v, h); cases this
      | some t0 =>
        simp only [h0] at he
        cases b <;> simp only [Bool.false_eq_true] at hL
        simp only at he
        generalize c.args.toList.map (evO fr) = as at he
        rcases as with _ | ⟨s, _ | ⟨x, r⟩⟩
        · have := he fun v h => some (v, h); cases this
        · exact b1 he
        · have := he fun v h => some (v, h); cases this

/-! an operation sees just what it looks at -/
theorem evO_congr {ops : Array Oper} {o : Oper} {fr fr' : Fr} (h : ∀ t ∈ o.looksAt ops, fr t = fr' t) : ∀ x ∈ o.op.operands, evO fr x = evO fr' x := by
  intro x hx
  cases x with
  | tmp t =>
    refine h t (List.mem_append_left _ (List.mem_filterMap.2 ⟨.tmp t, by simpa using hx, rfl⟩))
  | const v => rfl
  | global g => rfl
  | func f => rfl

theorem evOp_congr {env : Env} {op : Op} {fr fr' : Fr} (h : ∀ x ∈ op.operands, evO fr x = evO fr' x) (hh : H) (k : V → H → Ans) : evOp P env op fr hh k = evOp P env op fr' hh k := by
  have pairs : ∀ ps : Array (Nat × Operand), (∀ x ∈ (ps.toList.map (·.2)).toArray, evO fr x = evO fr' x) → (ps.toList.map fun (i, x) => (i, evO fr x)) = (ps.toList.map fun (i, x) => (i, evO fr' x)) := fun ps hp =>
    List.map_congr_left fun p hm => by
      obtain ⟨i, x⟩ := p
      simp only [hp x (by simp only [List.mem_toArray, List.mem_map]; exact ⟨(i, x), hm, rfl⟩)]
  have arr : ∀ xs : Array Operand, (∀ x ∈ xs, evO fr x = evO fr' x) → xs.toList.map (evO fr) = xs.toList.map (evO fr') := fun xs hx =>
    List.map_congr_left fun x hm => hx x (by simpa using hm)
  cases op <;> simp only [Op.operands] at h <;> simp only [evOp]
  case build t ps => rw [pairs ps h]
  case buildSlice t n ps => rw [pairs ps h]
  case makeFunc f a b => rw [arr a fun x hx => h x (by simp [hx]), arr b fun x hx => h x (by simp [hx])]
  case slice t x lo hi mx => cases lo <;> cases hi <;> cases mx <;> simp_all
  case call c =>
    have ha := arr c.args fun x hx => h x (by simp [Call.operands, hx])
    unfold evCall
    simp only [ha]
    cases hc : c.callee with
    | value f => simp only [h f (by simp [Call.operands, hc])]
    | invoke x m => rfl
    | builtin b => rfl
  case pick c a b => rw [h c (by simp), h a (by simp), h b (by simp)]
  case store t a v => rw [h a (by simp), h v (by simp)]
  case binOp op t x y b => rw [h x (by simp), h y (by simp)]
  case makeSlice t x y => rw [h x (by simp), h y (by simp)]
  case indexAddr t x y => rw [h x (by simp), h y (by simp)]
  case index t x y => rw [h x (by simp), h y (by simp)]
  case lookup t x y b => rw [h x (by simp), h y (by simp)]
  case mapUpdate t m k v => rw [h m (by simp), h k (by simp), h v (by simp)]
  case move x => rw [h x (by simp)]
  case assign x => rw [h x (by simp)]
  case box t x => rw [h x (by simp)]
  case load t x => rw [h x (by simp)]
  case nilCheck x => rw [h x (by simp)]
  case unOp op t x => rw [h x (by simp)]
  case convert s d x => rw [h x (by simp)]
  case fieldAddr s x f => rw [h x (by simp)]
  case field s x f => rw [h x (by simp)]
  case extract x i => rw [h x (by simp)]
  case makeMap t x => cases x <;> rfl

def Runs (ops : Array Oper) (o : Oper) (F : Fr) : Prop := match o.guard with | none => True | some (j, w) => gval ops j F = .bool w
def Skips (ops : Array Oper) (o : Oper) (F : Fr) : Prop := ∃ j w, o.guard = some (j, w) ∧ gval ops j F ≠ .unk ∧ gval ops j F ≠ .bool w
theorem Runs.not_skips {ops : Array Oper} {o : Oper} {F : Fr} (h : Runs ops o F) (g : Skips ops o F) : False := by
  obtain ⟨j, w, h1, h2, h3⟩ := g
  unfold Runs at h; rw [h1] at h; exact h3 h

theorem gval_congr {ops : Array Oper} {o : Oper} {fr fr' : Fr} (h : ∀ t ∈ o.looksAt ops, fr t = fr' t) {j : Nat} {w : Bool} (hg : o.guard = some (j, w)) : gval ops j fr = gval ops j fr' := by
  unfold gval slotOf
  cases hj : ops[j]? with
  | none => rfl
  | some oj =>
    simp only
    cases hd : oj.dst with
    | none => rfl
    | some d =>
      simp only
      exact h d (List.mem_append_right _ (by simp [hg, hj, hd]))
theorem Runs.congr {ops : Array Oper} {o : Oper} {fr fr' : Fr} (h : ∀ t ∈ o.looksAt ops, fr t = fr' t) (g : Runs ops o fr) : Runs ops o fr' := by
  unfold Runs at *
  cases hg : o.guard with
  | none => trivial
  | some jw => obtain ⟨j, w⟩ := jw; rw [hg] at g; simp only at g ⊢; rw [← gval_congr h hg]; exact g
theorem Skips.congr {ops : Array Oper} {o : Oper} {fr fr' : Fr} (h : ∀ t ∈ o.looksAt ops, fr t = fr' t) (g : Skips ops o fr) : Skips ops o fr' := by
  obtain ⟨j, w, h1, h2, h3⟩ := g
  exact ⟨j, w, h1, by rw [← gval_congr h h1]; exact h2, by rw [← gval_congr h h1]; exact h3⟩

/-- one operation of a region, taken apart -/
theorem evOper_inv {env : Env} {ops : Array Oper} {i : Nat} {fr : Fr} {h : H} {k : Fr → H → Ans} {r : V × H} (he : evOper P env ops i fr h k = some r) :
    ∃ o v h1, ops[i]? = some o ∧ k (putD o fr v) h1 = some r ∧ ((Runs ops o fr ∧ ∀ k2, evOp P env o.op fr h k2 = k2 v h1) ∨ (Skips ops o fr ∧ v = .undef ∧ h1 = h)) := by
  unfold evOper at he
  cases ho : ops[i]? with
  | none => simp [ho] at he
  | some o =>
    simp only [ho] at he
    cases hg : o.guard with
    | none =>
      simp only [hg] at he
      obtain ⟨v, h1, h2, h3⟩ := evOp_det he
      exact ⟨o, v, h1, rfl, h2, .inl ⟨by simp [Runs, hg], h3⟩⟩
    | some jw =>
      obtain ⟨j, w⟩ := jw
      simp only [hg] at he
      obtain ⟨v, h1, h2, h3⟩ := bnd2_some he
      refine ⟨o, v, h1, rfl, h3, ?_⟩
      have other : gval ops j fr ≠ .unk → (∀ b, gval ops j fr ≠ .bool b) → some (V.undef, h) = some (v, h1) → Skips ops o fr ∧ v = .undef ∧ h1 = h := by
        intro q1 q2 q3
        simp only [Option.some.injEq, Prod.mk.injEq] at q3
        exact ⟨⟨j, w, hg, q1, q2 w⟩, q3.1.symm, q3.2.symm⟩
      unfold gd at h2
      split at h2
      · rename_i b hb
        cases hbw : (b == w) with
        | true =>
          simp only [hbw, cond_true] at h2
          have : b = w := by simpa using hbw
          subst this
          obtain ⟨v2, h4, h5, h6⟩ := evOp_det h2
          simp only [Option.some.injEq, Prod.mk.injEq] at h5
          obtain ⟨rfl, rfl⟩ := h5
          exact .inl ⟨by simp [Runs, hg, hb], h6⟩
        | false =>
          simp only [hbw, cond_false, Option.some.injEq, Prod.mk.injEq] at h2
          have : b ≠ w := by simpa using hbw
          exact .inr ⟨⟨j, w, hg, by rw [hb]; simp, by rw [hb]; simpa using this⟩, h2.1.symm, h2.2.symm⟩
      · cases h2
      · rename_i hn1 hn2
        exact .inr (other hn2 hn1 h2)

theorem evChk_inv {env : Env} {ops : Array Oper} {i : Nat} {fr : Fr} {h : H} {k : Ans} {r : V × H} (he : evChk P env ops i fr h k = some r) :
    ∃ o d, ops[i]? = some o ∧ o.dst = some d ∧ k = some r ∧ (Runs ops o fr → ∃ h1, ∀ k2, evOp P env o.op fr h k2 = k2 (fr d) h1) := by
  unfold evChk at he
  cases ho : ops[i]? with
  | none => simp [ho] at he
  | some o =>
    simp only [ho] at he
    cases hd : o.dst with
    | none => simp [hd] at he
    | some d =>
      simp only [hd] at he
      have key : evOp P env o.op fr h (fun v _ => chkS v (fr d) k) = some r → k = some r ∧ ∃ h1, ∀ k2, evOp P env o.op fr h k2 = k2 (fr d) h1 := by
        intro he
        obtain ⟨v, h1, h2, h3⟩ := evOp_det he
        unfold chkS at h2
        cases hs : V.same v (fr d) with
        | false => rw [hs] at h2; cases h2
        | true =>
          rw [hs] at h2
          rw [V.same_eq hs] at h3
          exact ⟨h2, h1, h3⟩
      refine ⟨o, d, rfl, hd, ?_⟩
      cases hg : o.guard with
      | none =>
        simp only [hg] at he
        obtain ⟨q1, q2⟩ := key he
        exact ⟨q1, fun _ => q2⟩
      | some jw =>
        obtain ⟨j, w⟩ := jw
        simp only [hg] at he
        unfold gchk at he
        split at he
        · rename_i b hb
          cases hbw : (b == w) with
          | true =>
            simp only [hbw, cond_true] at he
            obtain ⟨q1, q2⟩ := key he
            exact ⟨q1, fun _ => q2⟩
          | false =>
            simp only [hbw, cond_false] at he
            refine ⟨he, fun hr => ?_⟩
            simp only [Runs, hg, hb, V.bool.injEq] at hr
            have : b ≠ w := by simpa using hbw
            exact absurd hr this
        · cases he
        · rename_i hn1 hn2
          refine ⟨he, fun hr => ?_⟩
          simp only [Runs, hg] at hr
          exact absurd hr (hn1 w)
end Go.AM

namespace Go.AM
open Go
variable {P : Program}

/-! sets of operations as numbers -/
def bt (m i : Nat) : Bool := Nat.testBit m i
def addM (m i : Nat) : Nat := Nat.lor m (2 ^ i)
def subM (a b : Nat) : Bool := Nat.beq (Nat.land a b) a
def delM (m a : Nat) : Nat := Nat.xor m (Nat.land m a)
theorem bt_add {m i j : Nat} : bt (addM m i) j = (bt m j || decide (i = j)) := by
  show Nat.testBit (m ||| 2 ^ i) j = _
  rw [Nat.testBit_or, Nat.testBit_two_pow]; rfl
theorem bt_sub {a b : Nat} (h : subM a b = true) {j : Nat} (hj : bt a j = true) : bt b j = true := by
  have h : (a &&& b) = a := Nat.eq_of_beq_eq_true h
  unfold bt at *
  rw [← h, Nat.testBit_and] at hj
  simp only [Bool.and_eq_true] at hj
  exact hj.2
theorem bt_del {m a j : Nat} : bt (delM m a) j = (bt m j && !bt a j) := by
  show Nat.testBit (m ^^^ (m &&& a)) j = _
  rw [Nat.testBit_xor, Nat.testBit_and]
  unfold bt
  cases Nat.testBit m j <;> cases Nat.testBit a j <;> rfl
theorem bt_zero (j : Nat) : bt 0 j = false := Nat.zero_testBit j

def maskOf (am : List Nat) : List Edge → Nat
  | [] => 0
  | e :: r => bif Region.binds .any e then Nat.lor (addM (am.getD e.on 0) e.on) (maskOf am r) else maskOf am r
def rankOf : List Nat → Nat → Nat
  | [], _ => 0
  | x :: r, i => bif Nat.beq x i then 0 else rankOf r i + 1
def okAm (ops : Array Oper) (am ord : List Nat) : Bool := (List.range ops.size).all fun i => match ops[i]? with
  | some o => o.after.toList.all (fun e => !Region.binds .any e || (Nat.blt e.on ops.size && Nat.blt (rankOf ord e.on) (rankOf ord i))) && Nat.beq (am.getD i 0) (maskOf am o.after.toList)
  | none => true
def ancs (ops : Array Oper) : List Nat → List Nat → List Nat
  | acc, [] => acc
  | acc, i :: r => ancs ops (match ops[i]? with | some o => acc.set i (maskOf acc o.after.toList) | none => acc) r
def ordOf : List It → List Nat
  | [] => []
  | .op i :: r => i :: ordOf r
  | .chk _ :: r => ordOf r

theorem maskOf_bt {am : List Nat} : ∀ {l : List Edge} {j : Nat}, bt (maskOf am l) j = true → ∃ e ∈ l, Region.binds .any e = true ∧ (e.on = j ∨ bt (am.getD e.on 0) j = true)
  | [], j, h => by simp [maskOf, bt_zero] at h
  | e :: r, j, h => by
    simp only [maskOf] at h
    cases hb : Region.binds .any e with
    | false =>
      rw [hb] at h
      obtain ⟨e', h1, h2⟩ := maskOf_bt h
      exact ⟨e', List.mem_cons_of_mem _ h1, h2⟩
    | true =>
      rw [hb] at h
      have h : (bt (addM (am.getD e.on 0) e.on) j || bt (maskOf am r) j) = true := by
        have h : Nat.testBit ((addM (am.getD e.on 0) e.on) ||| (maskOf am r)) j = true := h
        rwa [Nat.testBit_or] at h
      rw [Bool.or_eq_true, bt_add, Bool.or_eq_true, decide_eq_true_eq] at h
      rcases h with (h | h) | h
      · exact ⟨e, List.mem_cons_self .., hb, .inr h⟩
      · exact ⟨e, List.mem_cons_self .., hb, .inl h⟩
      · obtain ⟨e', h1, h2⟩ := maskOf_bt h
        exact ⟨e', List.mem_cons_of_mem _ h1, h2⟩

def Closed (ops : Array Oper) (D : Nat → Prop) : Prop := ∀ i o, ops[i]? = some o → D i → ∀ e ∈ o.after, Region.binds .any e = true → D e.on

theorem okAm_at {ops : Array Oper} {am ord : List Nat} (h : okAm ops am ord = true) {i : Nat} {o : Oper} (ho : ops[i]? = some o) : (∀ e ∈ o.after, Region.binds .any e = true → e.on < ops.size ∧ rankOf ord e.on < rankOf ord i) ∧ am.getD i 0 = maskOf am o.after.toList := by
  unfold okAm at h
  rw [List.all_eq_true] at h
  have hi : i < ops.size := (Array.getElem?_eq_some_iff.1 ho).1
  have := h i (List.mem_range.2 hi)
  rw [ho] at this
  simp only [Bool.and_eq_true, List.all_eq_true] at this
  refine ⟨fun e he hb => ?_, Nat.eq_of_beq_eq_true this.2⟩
  have := this.1 e (by simpa using he)
  rw [hb] at this
  simpa [blt_eq] using this

theorem anc_mem {ops : Array Oper} {am ord : List Nat} (h : okAm ops am ord = true) {D : Nat → Prop} (hD : Closed ops D) : ∀ (k i : Nat) (o : Oper), rankOf ord i = k → ops[i]? = some o → (∀ e ∈ o.after, Region.binds .any e = true → D e.on) → ∀ j, bt (am.getD i 0) j = true → D j := by
  intro k
  induction k using Nat.strongRecOn with
  | _ k ih =>
  intro i o hk ho he j hj
  obtain ⟨h1, h2⟩ := okAm_at h ho
  rw [h2] at hj
  obtain ⟨e, k1, k2, k3⟩ := maskOf_bt hj
  have k1' : e ∈ o.after := by simpa using k1
  have hd := he e k1' k2
  rcases k3 with rfl | k3
  · exact hd
  · obtain ⟨hsz, hlt⟩ := h1 e k1' k2
    have hoe : ops[e.on]? = some ops[e.on] := Array.getElem?_eq_getElem hsz
    exact ih (rankOf ord e.on) (by omega) e.on _ rfl hoe (fun e' he' hb => hD _ _ hoe hd e' he' hb) j k3
theorem closed_anc {ops : Array Oper} {am ord : List Nat} (h : okAm ops am ord = true) {D : Nat → Prop} (hD : Closed ops D) {i : Nat} {o : Oper} (ho : ops[i]? = some o) (hi : D i) {j : Nat} (hj : bt (am.getD i 0) j = true) : D j :=
  anc_mem h hD _ i o rfl ho (fun e he hb => hD i o ho hi e he hb) j hj

/-! what is asked of a region's temps -/
def lkOk (ops : Array Oper) (am : List Nat) : Bool := (List.range ops.size).all fun i => match ops[i]? with
  | some o => (o.looksAt ops).all fun t => (List.range ops.size).all fun j => match ops[j]? with
    | some oj => (match oj.dst with | some d => !Nat.beq d t || (bt (am.getD i 0) j || (Nat.beq i j || bt (am.getD j 0) i)) | none => true)
    | none => true
  | none => true
theorem lkOk_at {ops : Array Oper} {am : List Nat} (h : lkOk ops am = true) {i j : Nat} {o oj : Oper} (ho : ops[i]? = some o) (hoj : ops[j]? = some oj) {t : Tmp} (ht : t ∈ o.looksAt ops) (hd : oj.dst = some t) : bt (am.getD i 0) j = true ∨ i = j ∨ bt (am.getD j 0) i = true := by
  unfold lkOk at h
  rw [List.all_eq_true] at h
  have hi : i < ops.size := (Array.getElem?_eq_some_iff.1 ho).1
  have hj : j < ops.size := (Array.getElem?_eq_some_iff.1 hoj).1
  have h1 := h i (List.mem_range.2 hi)
  rw [ho] at h1
  simp only [List.all_eq_true] at h1
  have h2 := h1 t ht j (List.mem_range.2 hj)
  rw [hoj] at h2
  simp only [hd] at h2
  have : Nat.beq t t = true := Nat.beq_refl t
  rw [this] at h2
  simp only [Bool.not_true, Bool.false_or, Bool.or_eq_true] at h2
  exact h2.imp id (Or.imp Nat.eq_of_beq_eq_true id)
def disD (ops : Array Oper) : Bool := (List.range ops.size).all fun i => (List.range i).all fun j => match ops[i]?, ops[j]? with
  | some o, some oj => (match o.dst, oj.dst with | some d, some e => !Nat.beq d e | _, _ => true)
  | _, _ => true
theorem disD_at {ops : Array Oper} (h : disD ops = true) {i j : Nat} {o oj : Oper} (ho : ops[i]? = some o) (hoj : ops[j]? = some oj) {t : Tmp} (h1 : o.dst = some t) (h2 : oj.dst = some t) : i = j := by
  have key : ∀ (i j : Nat) (o oj : Oper), ops[i]? = some o → ops[j]? = some oj → o.dst = some t → oj.dst = some t → j < i → False := by
    intro i j o oj ho hoj h1 h2 hlt
    unfold disD at h
    rw [List.all_eq_true] at h
    have hi : i < ops.size := (Array.getElem?_eq_some_iff.1 ho).1
    have h3 := h i (List.mem_range.2 hi)
    rw [List.all_eq_true] at h3
    have h4 := h3 j (List.mem_range.2 hlt)
    simp only [ho, hoj, h1, h2] at h4
    have : Nat.beq t t = true := Nat.beq_refl t
    simp at h4
  rcases Nat.lt_trichotomy i j with hl | hl | hl
  · exact (key j i oj o hoj ho h2 h1 hl).elim
  · exact hl
  · exact (key i j o oj ho hoj h1 h2 hl).elim

/-- nothing that an operation looks at has been overwritten -/
def chkLk (ops : Array Oper) (am : List Nat) (dn i : Nat) : Bool := match ops[i]? with
  | some o => (o.looksAt ops).all fun t => (List.range ops.size).all fun j => match ops[j]? with
    | some oj => (match oj.dst with | some d => !Nat.beq d t || (bt (am.getD i 0) j || !bt dn j) | none => true)
    | none => true
  | none => true
theorem chkLk_at {ops : Array Oper} {am : List Nat} {dn i j : Nat} (h : chkLk ops am dn i = true) {o oj : Oper} (ho : ops[i]? = some o) (hoj : ops[j]? = some oj) {t : Tmp} (ht : t ∈ o.looksAt ops) (hd : oj.dst = some t) : bt (am.getD i 0) j = true ∨ bt dn j = false := by
  unfold chkLk at h
  rw [ho] at h
  simp only [List.all_eq_true] at h
  have hj : j < ops.size := (Array.getElem?_eq_some_iff.1 hoj).1
  have h2 := h t ht j (List.mem_range.2 hj)
  rw [hoj] at h2
  simp only [hd] at h2
  have : Nat.beq t t = true := Nat.beq_refl t
  rw [this] at h2
  simpa only [Bool.not_true, Bool.false_or, Bool.or_eq_true, Bool.not_eq_true'] using h2

/-- the list that the machine runs by -/
def okIt (P : Program) (ops : Array Oper) (am : List Nat) : Nat → Nat → Nat → Nat → List It → Bool
  | dn, _, _, nd, [] => Nat.beq nd 0 && Nat.beq dn (2 ^ ops.size - 1)
  | dn, aw, ls, nd, .chk i :: r => bt dn i && subM (am.getD i 0) dn && chkLk ops am dn i && okIt P ops am dn aw ls (delM nd (2 ^ i)) r
  | dn, aw, ls, nd, .op i :: r => Nat.beq nd 0 && !bt dn i && subM (am.getD i 0) dn && (match ops[i]? with
    | none => false
    | some o => match cls P o.op with
      | .w => subM aw (am.getD i 0) && okIt P ops am (addM dn i) (addM aw i) ls (delM ls (am.getD i 0)) r
      | .a => okIt P ops am (addM dn i) (addM aw i) ls 0 r
      | .l => subM aw (am.getD i 0) && okIt P ops am (addM dn i) aw (addM ls i) 0 r
      | .p => okIt P ops am (addM dn i) aw ls 0 r)

def rkWith (P : Program) (ops : Array Oper) (am : List Nat) (l : List It) : Bool := okAm ops am (ordOf l) && lkOk ops am && disD ops && okIt P ops am 0 0 0 0 l
def rk (P : Program) (ops : Array Oper) (l : List It) : Bool := rkWith P ops (ancs ops (List.replicate ops.size 0) (ordOf l)) l

theorem okIt_chk {ops : Array Oper} {am : List Nat} {dn aw ls nd i : Nat} {r : List It} (h : okIt P ops am dn aw ls nd (.chk i :: r) = true) : bt dn i = true ∧ subM (am.getD i 0) dn = true ∧ okIt P ops am dn aw ls (delM nd (2 ^ i)) r = true ∧ chkLk ops am dn i = true := by
  simp only [okIt, Bool.and_eq_true] at h
  exact ⟨h.1.1.1, h.1.1.2, h.2, h.1.2⟩
theorem okIt_op {ops : Array Oper} {am : List Nat} {dn aw ls nd i : Nat} {r : List It} (h : okIt P ops am dn aw ls nd (.op i :: r) = true) :
    nd = 0 ∧ bt dn i = false ∧ subM (am.getD i 0) dn = true ∧ ∃ o, ops[i]? = some o ∧
    ((cls P o.op = .w ∧ subM aw (am.getD i 0) = true ∧ okIt P ops am (addM dn i) (addM aw i) ls (delM ls (am.getD i 0)) r = true) ∨
     (cls P o.op = .a ∧ okIt P ops am (addM dn i) (addM aw i) ls 0 r = true) ∨
     (cls P o.op = .l ∧ subM aw (am.getD i 0) = true ∧ okIt P ops am (addM dn i) aw (addM ls i) 0 r = true) ∨
     (cls P o.op = .p ∧ okIt P ops am (addM dn i) aw ls 0 r = true)) := by
  simp only [okIt, Bool.and_eq_true] at h
  obtain ⟨⟨⟨h1, h2⟩, h3⟩, h4⟩ := h
  refine ⟨Nat.eq_of_beq_eq_true h1, by simpa using h2, h3, ?_⟩
  cases ho : ops[i]? with
  | none => simp [ho] at h4
  | some o =>
    simp only [ho] at h4
    refine ⟨o, rfl, ?_⟩
    cases hc : cls P o.op <;> simp only [hc, Bool.and_eq_true] at h4
    · exact .inr (.inl ⟨rfl, h4⟩)
    · exact .inl ⟨rfl, h4.1, h4.2⟩
    · exact .inr (.inr (.inl ⟨rfl, h4.1, h4.2⟩))
    · exact .inr (.inr (.inr ⟨rfl, h4⟩))
/-- the parts that all classes share -/
theorem okIt_tail {ops : Array Oper} {am : List Nat} {dn aw ls nd i : Nat} {r : List It} (h : okIt P ops am dn aw ls nd (.op i :: r) = true) : ∃ aw' ls' nd', okIt P ops am (addM dn i) aw' ls' nd' r = true ∧ (∀ j, bt aw j = true → bt aw' j = true) := by
  obtain ⟨_, _, _, o, _, h⟩ := okIt_op h
  rcases h with ⟨_, _, h⟩ | ⟨_, h⟩ | ⟨_, _, h⟩ | ⟨_, h⟩
  · exact ⟨_, _, _, h, fun j hj => by rw [bt_add, hj]; rfl⟩
  · exact ⟨_, _, _, h, fun j hj => by rw [bt_add, hj]; rfl⟩
  · exact ⟨_, _, _, h, fun j hj => hj⟩
  · exact ⟨_, _, _, h, fun j hj => hj⟩

theorem okIt_new {ops : Array Oper} {am : List Nat} : ∀ {r : List It} {dn aw ls nd : Nat}, okIt P ops am dn aw ls nd r = true → ∀ {j : Nat}, It.op j ∈ r → bt dn j = false
  | [], _, _, _, _, _, j, hj => by cases hj
  | .chk i :: r, dn, aw, ls, nd, h, j, hj => by
    rcases List.mem_cons.1 hj with e | hj
    · cases e
    · exact okIt_new (okIt_chk h).2.2.1 hj
  | .op i :: r, dn, aw, ls, nd, h, j, hj => by
    obtain ⟨_, h2, _⟩ := okIt_op h
    rcases List.mem_cons.1 hj with e | hj
    · injection e with e; subst e; exact h2
    · obtain ⟨aw', ls', nd', h, _⟩ := okIt_tail h
      have := okIt_new h hj
      rw [bt_add, Bool.or_eq_false_iff] at this
      exact this.1
theorem okIt_all {ops : Array Oper} {am : List Nat} : ∀ {r : List It} {dn aw ls nd : Nat}, okIt P ops am dn aw ls nd r = true → ∀ {j : Nat}, j < ops.size → bt dn j = true ∨ It.op j ∈ r
  | [], dn, aw, ls, nd, h, j, hj => by
    simp only [okIt, Bool.and_eq_true] at h
    have := Nat.eq_of_beq_eq_true h.2
    left
    unfold bt
    rw [this, Nat.testBit_two_pow_sub_one]
    simpa using hj
  | .chk i :: r, dn, aw, ls, nd, h, j, hj => (okIt_all (okIt_chk h).2.2.1 hj).imp id (List.mem_cons_of_mem _)
  | .op i :: r, dn, aw, ls, nd, h, j, hj => by
    obtain ⟨aw', ls', nd', h, _⟩ := okIt_tail h
    rcases okIt_all h hj with h | h
    · rw [bt_add, Bool.or_eq_true, decide_eq_true_eq] at h
      rcases h with h | rfl
      · exact .inl h
      · exact .inr (List.mem_cons_self ..)
    · exact .inr (List.mem_cons_of_mem _ h)
/-- what an operation that reads or writes waits for -/
theorem okIt_prev {ops : Array Oper} {am : List Nat} : ∀ {r : List It} {dn aw ls nd : Nat}, okIt P ops am dn aw ls nd r = true → ∀ {i : Nat} {o : Oper}, It.op i ∈ r → ops[i]? = some o → (cls P o.op = .w ∨ cls P o.op = .l) → ∀ {j : Nat}, bt aw j = true → bt (am.getD i 0) j = true
  | [], _, _, _, _, _, i, _, hi, _, _, _, _ => by cases hi
  | .chk i0 :: r, dn, aw, ls, nd, h, i, o, hi, ho, hc, j, hj => by
    rcases List.mem_cons.1 hi with e | hi
    · cases e
    · exact okIt_prev (okIt_chk h).2.2.1 hi ho hc hj
  | .op i0 :: r, dn, aw, ls, nd, h, i, o, hi, ho, hc, j, hj => by
    rcases List.mem_cons.1 hi with e | hi
    · injection e with e; subst e
      obtain ⟨_, _, _, o', ho', h⟩ := okIt_op h
      rw [ho] at ho'; injection ho' with ho'; subst ho'
      rcases h with ⟨_, h, _⟩ | ⟨k, h⟩ | ⟨_, h, _⟩ | ⟨k, h⟩
      · exact bt_sub h hj
      · rw [k] at hc; simp at hc
      · exact bt_sub h hj
      · rw [k] at hc; simp at hc
    · obtain ⟨aw', ls', nd', h, hm⟩ := okIt_tail h
      exact okIt_prev h hi ho hc (hm j hj)

/-! the machine's own run, taken apart -/
def mask (T : List Tmp) (F : Fr) : Fr := fun t => if t ∈ T then F t else .unk
theorem mask_eq {T : List Tmp} {F : Fr} : ∀ t ∈ T, mask T F t = F t := fun t ht => by simp [mask, ht]

/-- what an operation sees of temps: new ones of those that it waits for, old ones of the others -/
noncomputable def vw (ops : Array Oper) (am : List Nat) (F0 F : Fr) (i : Nat) : Fr := fun t => @ite _ (∃ j oj, ops[j]? = some oj ∧ oj.dst = some t ∧ bt (am.getD i 0) j = false) (Classical.propDecidable _) (F0 t) (F t)
theorem vw_old {ops : Array Oper} {am : List Nat} {F0 F : Fr} {i j : Nat} {oj : Oper} {t : Tmp} (h1 : ops[j]? = some oj) (h2 : oj.dst = some t) (h3 : bt (am.getD i 0) j = false) : vw ops am F0 F i t = F0 t := by
  unfold vw; rw [if_pos ⟨j, oj, h1, h2, h3⟩]
theorem vw_new {ops : Array Oper} {am : List Nat} {F0 F : Fr} {i : Nat} {t : Tmp} (h : ∀ j oj, ops[j]? = some oj → oj.dst = some t → bt (am.getD i 0) j = true) : vw ops am F0 F i t = F t := by
  unfold vw; rw [if_neg]; rintro ⟨j, oj, h1, h2, h3⟩; rw [h j oj h1 h2] at h3; cases h3

inductive Can (P : Program) (env : Env) (ops : Array Oper) (F : Fr) (G : Nat → Fr) (hF : H) : List (Nat × Nat × Blk) → List It → H → Prop
  | nil : HBd hF → Can P env ops F G hF [] [] hF
  | run {T i r h o v h1} : ops[i]? = some o → isA P o.op = false → Runs ops o (G i) → (∀ k2, evOp P env o.op (G i) h k2 = k2 v h1) → (∀ d, o.dst = some d → F d = v) → HBd h → (∀ t ∈ o.looksAt ops, Bd h.next (G i t)) → h.next ≤ h1.next → Can P env ops F G hF T r h1 → Can P env ops F G hF T (.op i :: r) h
  | new {T i r h o x} {vf : Nat → V} : ops[i]? = some o → isA P o.op = true → Runs ops o (G i) → (∀ a w M, Fit P M (mask (o.looksAt ops) (G i)) a → OpS P (execOp a.eval o) w (NewB P M w x vf)) → (∀ d, o.dst = some d → F d = vf h.next) → HBd h → Can P env ops F G hF T r (h.push x) → Can P env ops F G hF ((i, h.next, x) :: T) (.op i :: r) h
  | skip {T i r h o} : ops[i]? = some o → Skips ops o (G i) → (∀ d, o.dst = some d → F d = .undef) → HBd h → Can P env ops F G hF T r h → Can P env ops F G hF T (.op i :: r) h
  | chk {T i r h o d} : ops[i]? = some o → o.dst = some d → (Runs ops o (G i) → ∃ h1, ∀ k2, evOp P env o.op (G i) h k2 = k2 (F d) h1) → HBd h → (∀ t ∈ o.looksAt ops, Bd h.next (G i t)) → Can P env ops F G hF T r h → Can P env ops F G hF T (.chk i :: r) h

/-- a state of the machine's that some state of the model's meets -/
def Met (P : Program) (n : Nat) (h : H) (fr : Fr) : Prop := ∃ M w D a, St P M h w ∧ Fm P n D M fr a
theorem Met.hbd {n : Nat} {h : H} {fr : Fr} (m : Met P n h fr) : HBd h := by obtain ⟨M, w, D, a, S, _⟩ := m; exact S.hbd
theorem Met.bd {n : Nat} {h : H} {fr : Fr} (m : Met P n h fr) (t : Tmp) : Bd h.next (fr t) := by obtain ⟨M, w, D, a, S, F⟩ := m; exact (F.fit t).bd S.dom
theorem OpS.some {s : Sem Next} {w : World} {A : Value → World → Prop} (h : OpS P s w A) : ∃ v w', A v w' := by
  unfold OpS at h
  generalize s.run P w = r at h
  cases r with
  | halt x w' => exact h.elim
  | ok n w' =>
    cases n <;> simp only at h <;> try contradiction
    · exact ⟨_, _, h⟩
    · exact ⟨_, _, h⟩
    · obtain ⟨e, w2, _, h, _⟩ := h []
      cases e <;> first | exact ⟨_, _, h⟩ | exact h.elim
theorem Met.step {env : Env} (E : EnvS P env) (L : Lay P) {n : Nat} {h h1 : H} {fr : Fr} (m : Met P n h fr) {o : Oper} (hd : ∀ d, o.dst = some d → d < n) {v : V} (he : ∀ k2, evOp P env o.op fr h k2 = k2 v h1) : Met P n h1 (putD o fr v) ∧ h.next ≤ h1.next := by
  obtain ⟨M, w, D, a, S, F⟩ := m
  obtain ⟨v2, h2, g1, g2⟩ := evOp_snd E L S F.fit (o := o) (he fun v h => Option.some (v, h))
  simp only [Option.some.injEq, Prod.mk.injEq] at g1
  obtain ⟨rfl, rfl⟩ := g1
  obtain ⟨v', w', M', s, x, u⟩ := g2.some
  exact ⟨⟨M', w', D, _, s, (F.mono x.le).put hd u⟩, x.nx⟩
theorem Met.skip {n : Nat} {h : H} {fr : Fr} (m : Met P n h fr) {o : Oper} (hd : ∀ d, o.dst = some d → d < n) : Met P n h (putD o fr .undef) := by
  obtain ⟨M, w, D, a, S, F⟩ := m
  exact ⟨M, w, D, _, S, F.put hd (v' := undef) (.inr (by simp))⟩

theorem can_of {env : Env} (E : EnvS P env) (L : Lay P) {n : Nat} {ops : Array Oper} (hdst : dstOk n ops = true) {am : List Nat} (hlk : lkOk ops am = true) (hdis : disD ops = true) {k : Fr → H → Ans} {r : V × H} {F0 : Fr} :
    ∀ {l : List It} {fr : Fr} {h : H} {dn aw ls nd : Nat}, evIts P env ops l fr h k = some r → okIt P ops am dn aw ls nd l = true → Met P n h fr → (∀ t, (∀ j oj, bt dn j = true → ops[j]? = some oj → oj.dst ≠ some t) → fr t = F0 t) → (∀ j, bt dn j = true → ∀ q, bt (am.getD j 0) q = true → bt dn q = true) →
    ∃ F hF T, k F hF = some r ∧ Can P env ops F (vw ops am F0 F) hF T l h ∧ (∀ t, (∀ i o, It.op i ∈ l → ops[i]? = some o → o.dst ≠ some t) → F t = fr t)
  | [], fr, h, dn, aw, ls, nd, he, hok, m, _, _ => ⟨fr, h, [], he, .nil m.hbd, fun _ _ => rfl⟩
  | .chk i :: l, fr, h, dn, aw, ls, nd, he, hok, m, hF0, hdn => by
    simp only [evIts] at he
    obtain ⟨o, d, ho, hd, hk, hr⟩ := evChk_inv he
    obtain ⟨q1, q2, q3, q4⟩ := okIt_chk hok
    obtain ⟨F, hF, T, k1, k2, k3⟩ := can_of (F0 := F0) E L hdst hlk hdis hk q3 m hF0 hdn
    have hlook : ∀ t ∈ o.looksAt ops, vw ops am F0 F i t = fr t := fun t ht => by
      by_cases hw : ∃ j oj, ops[j]? = some oj ∧ oj.dst = some t ∧ bt (am.getD i 0) j = false
      · obtain ⟨j, oj, hoj, hdj, hb⟩ := hw
        rw [vw_old hoj hdj hb]
        refine (hF0 t fun j' oj' hj' hoj' hdj' => ?_).symm
        have := disD_at hdis hoj hoj' hdj hdj'
        subst this
        rcases chkLk_at q4 ho hoj ht hdj with h1 | h1
        · rw [hb] at h1; cases h1
        · rw [hj'] at h1; cases h1
      · have hall : ∀ j oj, ops[j]? = some oj → oj.dst = some t → bt (am.getD i 0) j = true := fun j oj h1 h2 => by
          cases hb : bt (am.getD i 0) j with
          | true => rfl
          | false => exact absurd ⟨j, oj, h1, h2, hb⟩ hw
        rw [vw_new hall]
        refine k3 t fun j oj hj hoj hdj => ?_
        have h1 := bt_sub q2 (hall j oj hoj hdj)
        rw [okIt_new q3 hj] at h1; cases h1
    have hFd : F d = fr d := k3 d fun j oj hj hoj hdj => by
      have := disD_at hdis ho hoj hd hdj
      subst this
      rw [okIt_new q3 hj] at q1; cases q1
    refine ⟨F, hF, T, k1, .chk ho hd (fun hR => ?_) m.hbd (fun t ht => by rw [hlook t ht]; exact m.bd t) k2, fun t ht => k3 t fun j oj hj => ht j oj (List.mem_cons_of_mem _ hj)⟩
    obtain ⟨h1, q⟩ := hr (hR.congr hlook)
    exact ⟨h1, fun k2 => by rw [evOp_congr (evO_congr hlook), hFd]; exact q k2⟩
  | .op i :: l, fr, h, dn, aw, ls, nd, he, hok, m, hF0, hdn => by
    simp only [evIts] at he
    obtain ⟨o, v, h1, ho, hk, hr⟩ := evOper_inv he
    obtain ⟨_, q1, q2, o', ho', hcls⟩ := okIt_op hok
    rw [ho] at ho'; injection ho' with ho'; subst ho'
    obtain ⟨aw', ls', nd', q3, _⟩ := okIt_tail hok
    have hdl := dstOk_get hdst ho
    have m1 : Met P n h1 (putD o fr v) := by
      rcases hr with ⟨_, hr⟩ | ⟨_, rfl, rfl⟩
      · exact (m.step E L hdl hr).1
      · exact m.skip hdl
    have put_ne : ∀ t, o.dst ≠ some t → putD o fr v t = fr t := by
      intro t hne
      unfold putD
      cases hd : o.dst with
      | none => rfl
      | some d =>
        simp only [Fr.set, beq_eq]
        have : ¬ t = d := fun e => hne (by rw [hd, e])
        simp [this]
    obtain ⟨F, hF, T, k1, k2, k3⟩ := can_of (F0 := F0) E L hdst hlk hdis hk q3 m1 (fun t ht => by
      rw [put_ne t (ht i o (by rw [bt_add]; simp) ho)]
      exact hF0 t fun j oj hj => ht j oj (by rw [bt_add, hj]; rfl)) (fun j hj q hq => by
      rw [bt_add, Bool.or_eq_true, decide_eq_true_eq] at hj
      rw [bt_add]
      rcases hj with hj | rfl
      · rw [hdn j hj q hq]; rfl
      · rw [bt_sub q2 hq]; rfl)
    have hself : ∀ j, It.op j ∈ l → j ≠ i := by
      rintro j hj rfl
      have := okIt_new q3 hj
      rw [bt_add, Bool.or_eq_false_iff] at this
      simp at this
    have hlook : ∀ t ∈ o.looksAt ops, vw ops am F0 F i t = fr t := fun t ht => by
      by_cases hw : ∃ j oj, ops[j]? = some oj ∧ oj.dst = some t ∧ bt (am.getD i 0) j = false
      · obtain ⟨j, oj, hoj, hdj, hb⟩ := hw
        rw [vw_old hoj hdj hb]
        refine (hF0 t fun j' oj' hj' hoj' hdj' => ?_).symm
        have := disD_at hdis hoj hoj' hdj hdj'
        subst this
        rcases lkOk_at hlk ho hoj ht hdj with h1 | h1 | h1
        · rw [hb] at h1; cases h1
        · subst h1; rw [hj'] at q1; cases q1
        · rw [hdn j hj' i h1] at q1; cases q1
      · have hall : ∀ j oj, ops[j]? = some oj → oj.dst = some t → bt (am.getD i 0) j = true := fun j oj h1 h2 => by
          cases hb : bt (am.getD i 0) j with
          | true => rfl
          | false => exact absurd ⟨j, oj, h1, h2, hb⟩ hw
        rw [vw_new hall, k3 t fun j oj hj hoj hdj => ?_]
        · refine put_ne t fun hd => ?_
          have h1 := bt_sub q2 (hall i o ho hd)
          rw [q1] at h1; cases h1
        · have h1 := bt_sub q2 (hall j oj hoj hdj)
          have h2 := okIt_new q3 hj
          rw [bt_add, h1] at h2; cases h2
    have hFd : ∀ d, o.dst = some d → F d = v := fun d hd => by
      rw [k3 d fun j oj hj hoj hdj => hself j hj (disD_at hdis hoj ho hdj hd)]
      simp [putD, hd, Fr.set]
    have hrest : ∀ t, (∀ i' o', It.op i' ∈ It.op i :: l → ops[i']? = some o' → o'.dst ≠ some t) → F t = fr t := fun t ht => by
      rw [k3 t fun j oj hj => ht j oj (List.mem_cons_of_mem _ hj)]
      exact put_ne t (ht i o (List.mem_cons_self ..) ho)
    have hbd : ∀ t ∈ o.looksAt ops, Bd h.next (vw ops am F0 F i t) := fun t ht => by rw [hlook t ht]; exact m.bd t
    rcases hr with ⟨hR, hr⟩ | ⟨hS, rfl, rfl⟩
    · have hR' : Runs ops o (vw ops am F0 F i) := hR.congr fun t ht => (hlook t ht).symm
      have hr' : ∀ k2, evOp P env o.op (vw ops am F0 F i) h k2 = k2 v h1 := fun k2 => by rw [evOp_congr (evO_congr hlook)]; exact hr k2
      cases hA : isA P o.op with
      | false => exact ⟨F, hF, T, k1, .run ho hA hR' hr' hFd m.hbd hbd (m.step E L hdl hr).2 k2, hrest⟩
      | true =>
        have hmk : ∀ k2, evOp P env o.op (mask (o.looksAt ops) (vw ops am F0 F i)) h k2 = k2 v h1 := fun k2 => by rw [evOp_congr (evO_congr (mask_eq (F := vw ops am F0 F i)))]; exact hr' k2
        obtain ⟨vf, x, g1, g2⟩ := evA_snd (env := env) L hA (hmk fun v h => some (v, h))
        have e1 := (g1 h fun v h => some (v, h)).symm.trans (hmk fun v h => some (v, h))
        simp only [Option.some.injEq, Prod.mk.injEq] at e1
        obtain ⟨e1, e2⟩ := e1
        subst e1 e2
        exact ⟨F, hF, _, k1, .new ho hA hR' g2 hFd m.hbd k2, hrest⟩
    · exact ⟨F, hF, T, k1, .skip ho (hS.congr fun t ht => (hlook t ht).symm) hFd m.hbd k2, hrest⟩

/-! the new blocks' numbers -/
theorem Can.hbd {env : Env} {ops : Array Oper} {F : Fr} {G : Nat → Fr} {hF h : H} {T : List (Nat × Nat × Blk)} {r : List It} (c : Can P env ops F G hF T r h) : HBd h := by cases c <;> assumption
theorem Can.num {env : Env} {ops : Array Oper} {F : Fr} {G : Nat → Fr} {hF : H} : ∀ {r : List It} {h : H} {T : List (Nat × Nat × Blk)}, Can P env ops F G hF T r h → h.next ≤ hF.next ∧ ∀ i b x, (i, b, x) ∈ T → h.next ≤ b ∧ b < hF.next := by
  intro r h T c
  induction c with
  | nil => exact ⟨Nat.le_refl _, fun i b x h => by cases h⟩
  | run _ _ _ _ _ _ _ hle _ ih => exact ⟨Nat.le_trans hle ih.1, fun i b x hm => ⟨Nat.le_trans hle (ih.2 i b x hm).1, (ih.2 i b x hm).2⟩⟩
  | new _ _ _ _ _ _ _ ih =>
    have h1 := ih.1
    simp only [H.next_push] at h1 ih
    refine ⟨by omega, fun i b x hm => ?_⟩
    rcases List.mem_cons.1 hm with e | hm
    · simp only [Prod.mk.injEq] at e; omega
    · have := ih.2 i b x hm; omega
  | skip _ _ _ _ _ ih => exact ih
  | chk _ _ _ _ _ _ ih => exact ih
theorem Can.mem {env : Env} {ops : Array Oper} {F : Fr} {G : Nat → Fr} {hF : H} : ∀ {r : List It} {h : H} {T : List (Nat × Nat × Blk)}, Can P env ops F G hF T r h → ∀ i b x, (i, b, x) ∈ T → It.op i ∈ r ∧ ∃ o, ops[i]? = some o ∧ isA P o.op = true ∧ Runs ops o (G i) := by
  intro r h T c
  induction c with
  | nil => intro i b x h; cases h
  | run _ _ _ _ _ _ _ _ _ ih => exact fun i b x hm => ⟨List.mem_cons_of_mem _ (ih i b x hm).1, (ih i b x hm).2⟩
  | new h1 h2 h3 _ _ _ _ ih =>
    intro i b x hm
    rcases List.mem_cons.1 hm with e | hm
    · simp only [Prod.mk.injEq] at e
      obtain ⟨rfl, _⟩ := e
      exact ⟨List.mem_cons_self .., _, h1, h2, h3⟩
    · exact ⟨List.mem_cons_of_mem _ (ih i b x hm).1, (ih i b x hm).2⟩
  | skip _ _ _ _ _ ih => exact fun i b x hm => ⟨List.mem_cons_of_mem _ (ih i b x hm).1, (ih i b x hm).2⟩
  | chk _ _ _ _ _ _ ih => exact fun i b x hm => ⟨List.mem_cons_of_mem _ (ih i b x hm).1, (ih i b x hm).2⟩
/-- a number is one operation's -/
theorem Can.inj {env : Env} {ops : Array Oper} {F : Fr} {G : Nat → Fr} {hF : H} : ∀ {r : List It} {h : H} {T : List (Nat × Nat × Blk)}, Can P env ops F G hF T r h → ∀ i j b x y, (i, b, x) ∈ T → (j, b, y) ∈ T → i = j ∧ x = y := by
  intro r h T c
  induction c with
  | nil => intro i j b x y h; cases h
  | run _ _ _ _ _ _ _ _ _ ih => exact ih
  | new _ _ _ _ _ _ c ih =>
    intro i j b x y h1 h2
    have hn := c.num.2
    simp only [H.next_push] at hn
    rcases List.mem_cons.1 h1 with e1 | h1 <;> rcases List.mem_cons.1 h2 with e2 | h2
    · simp only [Prod.mk.injEq] at e1 e2; exact ⟨e1.1.trans e2.1.symm, e1.2.2.trans e2.2.2.symm⟩
    · simp only [Prod.mk.injEq] at e1; have := hn _ _ _ h2; omega
    · simp only [Prod.mk.injEq] at e2; have := hn _ _ _ h1; omega
    · exact ih i j b x y h1 h2
  | skip _ _ _ _ _ ih => exact ih
  | chk _ _ _ _ _ _ ih => exact ih
/-- an operation that is still to come and makes a block -/
theorem Can.getA {env : Env} {ops : Array Oper} {F : Fr} {G : Nat → Fr} {hF : H} : ∀ {r : List It} {h : H} {T : List (Nat × Nat × Blk)}, Can P env ops F G hF T r h → ∀ i o, It.op i ∈ r → ops[i]? = some o → isA P o.op = true → Runs ops o (G i) →
    ∃ b x vf, (i, b, x) ∈ T ∧ (∀ a w M, Fit P M (mask (o.looksAt ops) (G i)) a → OpS P (execOp a.eval o) w (NewB P M w x vf)) ∧ (∀ d, o.dst = some d → F d = vf b) := by
  intro r h T c
  induction c with
  | nil => intro i o h; cases h
  | run h1 h2 _ _ _ _ _ _ _ ih =>
    intro i o hi ho hA hR
    rcases List.mem_cons.1 hi with e | hi
    · injection e with e; subst e; rw [ho] at h1; injection h1 with h1; subst h1; rw [hA] at h2; cases h2
    · exact ih i o hi ho hA hR
  | new h1 h2 h3 h4 h5 _ _ ih =>
    intro i o hi ho hA hR
    rcases List.mem_cons.1 hi with e | hi
    · injection e with e; subst e; rw [ho] at h1; injection h1 with h1; subst h1
      exact ⟨_, _, _, List.mem_cons_self .., h4, h5⟩
    · obtain ⟨b, x, vf, q1, q2⟩ := ih i o hi ho hA hR
      exact ⟨b, x, vf, List.mem_cons_of_mem _ q1, q2⟩
  | skip h1 h2 _ _ _ ih =>
    intro i o hi ho hA hR
    rcases List.mem_cons.1 hi with e | hi
    · injection e with e; subst e; rw [ho] at h1; injection h1 with h1; subst h1; exact (hR.not_skips h2).elim
    · exact ih i o hi ho hA hR
  | chk _ _ _ _ _ _ ih =>
    intro i o hi ho hA hR
    rcases List.mem_cons.1 hi with e | hi
    · cases e
    · exact ih i o hi ho hA hR
/-- what holds of each operation, wherever it comes -/
theorem Can.each {env : Env} {ops : Array Oper} {F : Fr} {G : Nat → Fr} {hF : H} : ∀ {r : List It} {h : H} {T : List (Nat × Nat × Blk)}, Can P env ops F G hF T r h → ∀ i, It.op i ∈ r → ∃ o, ops[i]? = some o ∧
    ((Runs ops o (G i) ∧ (isA P o.op = true ∨ ∃ h v h1, (∀ k2, evOp P env o.op (G i) h k2 = k2 v h1) ∧ ∀ d, o.dst = some d → F d = v)) ∨ (Skips ops o (G i) ∧ ∀ d, o.dst = some d → F d = .undef)) := by
  intro r h T c
  induction c with
  | nil => intro i h; cases h
  | run h1 h2 h3 h4 h5 _ _ _ _ ih =>
    intro i hi
    rcases List.mem_cons.1 hi with e | hi
    · injection e with e; subst e; exact ⟨_, h1, .inl ⟨h3, .inr ⟨_, _, _, h4, h5⟩⟩⟩
    · exact ih i hi
  | new h1 h2 h3 h4 h5 _ _ ih =>
    intro i hi
    rcases List.mem_cons.1 hi with e | hi
    · injection e with e; subst e; exact ⟨_, h1, .inl ⟨h3, .inl h2⟩⟩
    · exact ih i hi
  | skip h1 h2 h3 _ _ ih =>
    intro i hi
    rcases List.mem_cons.1 hi with e | hi
    · injection e with e; subst e; exact ⟨_, h1, .inr ⟨h2, h3⟩⟩
    · exact ih i hi
  | chk _ _ _ _ _ _ ih =>
    intro i hi
    rcases List.mem_cons.1 hi with e | hi
    · cases e
    · exact ih i hi
end Go.AM

namespace Go.AM
open Go
variable {P : Program}

/-- what an operation that reads found, in a part of the heap that has not changed since -/
def Sto (P : Program) (env : Env) (ops : Array Oper) (Gi F : Fr) (h0 h : H) (o : Oper) : Prop :=
  ∃ hs v h1, h0.next ≤ hs.next ∧ hs.next ≤ h.next ∧ (∀ b, b < hs.next → h.get b = hs.get b) ∧ HBd hs ∧ (∀ t ∈ o.looksAt ops, Bd hs.next (Gi t)) ∧ (∀ k2, evOp P env o.op Gi hs k2 = k2 v h1) ∧ (∀ d, o.dst = some d → F d = v)
theorem Sto.push {env : Env} {ops : Array Oper} {Gi F : Fr} {h0 h : H} {o : Oper} (s : Sto P env ops Gi F h0 h o) (x : Blk) : Sto P env ops Gi F h0 (h.push x) o := by
  obtain ⟨hs, v, h1, q1, q2, q3, q4⟩ := s
  refine ⟨hs, v, h1, q1, by simp; omega, fun b hb => ?_, q4⟩
  rw [H.get_push, if_neg (by omega)]; exact q3 b hb

structure Inv (P : Program) (env : Env) (ops : Array Oper) (am : List Nat) (F0 F : Fr) (hF : H) (M0 : Inj) (h0 : H) (w0 : World) (n : Nat) (D0 : List Deferred)
    (D : Nat → Prop) (T : List (Nat × Nat × Blk)) (r : List It) (h : H) (dn aw ls nd : Nat) (M : Inj) (f : Fn) (a : Act) (w : World) : Prop where
  can : Can P env ops F (vw ops am F0 F) hF T r h
  ok : okIt P ops am dn aw ls nd r = true
  awD : ∀ i, bt aw i = true → D i
  wD : ∀ i o, It.op i ∈ r → ops[i]? = some o → cls P o.op = .w → ¬ D i
  sf : SF P M f w
  xf : XF M0 h0 w0 M f w
  nx : h0.next ≤ h.next
  fh : ∀ b, b < h.next → f b = h.get b
  er : ∀ b, h.next ≤ b → (f b ≠ none ∨ M b ≠ none) → ∃ i x, (i, b, x) ∈ T ∧ D i
  ea : ∀ i b x, (i, b, x) ∈ T → D i → f b = some x
  st : ∀ i o, bt ls i = true → bt nd i = false → ¬ D i → ops[i]? = some o → Runs ops o (vw ops am F0 F i) → Sto P env ops (vw ops am F0 F i) F h0 h o
  cov : ∀ i o, bt dn i = true → ops[i]? = some o → (cls P o.op = .l → bt ls i = true) ∧ (cls P o.op = .a ∨ cls P o.op = .w → bt aw i = true)
  fit : ∀ t, (∀ i o, ops[i]? = some o → o.dst = some t → D i) → VU P M (F t) (a.tmps.getD t undef)
  fit0 : ∀ t i o, ops[i]? = some o → o.dst = some t → ¬ D i → VU P M (F0 t) (a.tmps.getD t undef)
  sz : n ≤ a.tmps.size
  df : a.defers = D0

section
variable {env : Env} {ops : Array Oper} {am : List Nat} {F0 F : Fr} {hF : H} {M0 : Inj} {h0 : H} {w0 : World} {n : Nat} {D0 : List Deferred}

theorem cov_add {dn aw ls i : Nat} {o : Oper} (hc : ∀ i o, bt dn i = true → ops[i]? = some o → (cls P o.op = .l → bt ls i = true) ∧ (cls P o.op = .a ∨ cls P o.op = .w → bt aw i = true)) (ho : ops[i]? = some o) {aw' ls' : Nat}
    (h1 : ∀ j, bt aw j = true → bt aw' j = true) (h2 : ∀ j, bt ls j = true → bt ls' j = true) (h3 : cls P o.op = .l → bt ls' i = true) (h4 : cls P o.op = .a ∨ cls P o.op = .w → bt aw' i = true) :
    ∀ j oj, bt (addM dn i) j = true → ops[j]? = some oj → (cls P oj.op = .l → bt ls' j = true) ∧ (cls P oj.op = .a ∨ cls P oj.op = .w → bt aw' j = true) := by
  intro j oj hj hoj
  rw [bt_add, Bool.or_eq_true, decide_eq_true_eq] at hj
  rcases hj with hj | rfl
  · exact ⟨fun q => h2 _ ((hc j oj hj hoj).1 q), fun q => h1 _ ((hc j oj hj hoj).2 q)⟩
  · rw [ho] at hoj; injection hoj with hoj; subst hoj; exact ⟨h3, h4⟩

theorem bt_add_of {m i j : Nat} (h : bt m j = true) : bt (addM m i) j = true := by rw [bt_add, h]; rfl
theorem bt_add_self {m i : Nat} : bt (addM m i) i = true := by rw [bt_add]; simp

theorem Inv.step1 {D : Nat → Prop} {T : List (Nat × Nat × Blk)} {it : It} {r : List It} {h : H} {dn aw ls : Nat} {M : Inj} {f : Fn} {a : Act} {w : World}
    (I : Inv P env ops am F0 F hF M0 h0 w0 n D0 D T (it :: r) h dn aw ls 0 M f a w) (hj : ∀ j o, it = .op j → ops[j]? = some o → (cls P o.op = .a ∨ cls P o.op = .w) → D j) :
    ∃ T' h' dn' aw' ls', Inv P env ops am F0 F hF M0 h0 w0 n D0 D T' r h' dn' aw' ls' 0 M f a w := by
  cases it with
  | chk i =>
    obtain ⟨q1, q2, q3, _⟩ := okIt_chk I.ok
    have : delM 0 (2 ^ i) = 0 := by
      show 0 ^^^ (0 &&& 2 ^ i) = 0
      simp
    rw [this] at q3
    have c := I.can
    cases c with
    | chk _ _ _ _ _ c => exact ⟨T, h, dn, aw, ls, { I with can := c, ok := q3, wD := fun j o hj => I.wD j o (List.mem_cons_of_mem _ hj) }⟩
  | op i =>
    obtain ⟨_, q1, q2, o, ho, hc⟩ := okIt_op I.ok
    rcases hc with ⟨hw, _, _⟩ | ⟨ha, q⟩ | ⟨hl, _, q⟩ | ⟨hp, q⟩
    · exact absurd (hj i o rfl ho (.inr hw)) (I.wD i o (List.mem_cons_self ..) ho hw)
    · have hDi := hj i o rfl ho (.inl ha)
      have hawD : ∀ j, bt (addM aw i) j = true → D j := fun j hb => by
        rw [bt_add, Bool.or_eq_true, decide_eq_true_eq] at hb
        rcases hb with hb | rfl
        · exact I.awD j hb
        · exact hDi
      have hcov := cov_add I.cov ho (aw' := addM aw i) (ls' := ls) (fun j => bt_add_of) (fun j => id) (fun q => by rw [ha] at q; cases q) (fun _ => bt_add_self)
      have c := I.can
      cases c with
      | run k1 k2 _ _ _ _ _ _ _ => rw [ho] at k1; injection k1 with k1; subst k1; rw [cls_a ha] at k2; cases k2
      | @new T x _ _ o' x vf k1 k2 k3 k4 k5 k6 c =>
        refine ⟨T, h.push x, _, _, _, { I with can := c, ok := q, awD := hawD, cov := hcov, wD := fun j o hj => I.wD j o (List.mem_cons_of_mem _ hj), nx := by simp; have := I.nx; omega, fh := ?_, er := ?_, ea := fun j b y hm => I.ea j b y (List.mem_cons_of_mem _ hm), st := fun j oj g1 g2 g3 g4 g5 => (I.st j oj g1 g2 g3 g4 g5).push x }⟩
        · intro b hb
          rw [H.get_push]
          by_cases e : b = h.next
          · subst e; simp only [if_true]; exact I.ea i _ _ (List.mem_cons_self ..) hDi
          · rw [if_neg e]; simp only [H.next_push] at hb; exact I.fh b (by omega)
        · intro b hb hn
          simp only [H.next_push] at hb
          obtain ⟨j, y, hm, hD⟩ := I.er b (by omega) hn
          rcases List.mem_cons.1 hm with e | hm
          · simp only [Prod.mk.injEq] at e; omega
          · exact ⟨j, y, hm, hD⟩
      | skip k1 k2 k3 k4 c => exact ⟨T, h, _, _, _, { I with can := c, ok := q, awD := hawD, cov := hcov, wD := fun j o hj => I.wD j o (List.mem_cons_of_mem _ hj) }⟩
    · have hcov := cov_add I.cov ho (aw' := aw) (ls' := addM ls i) (fun j => id) (fun j => bt_add_of) (fun _ => bt_add_self) (fun q => by rw [hl] at q; simp at q)
      have c := I.can
      have stn : (Runs ops o (vw ops am F0 F i) → Sto P env ops (vw ops am F0 F i) F h0 h o) → ∀ j oj, bt (addM ls i) j = true → bt 0 j = false → ¬ D j → ops[j]? = some oj → Runs ops oj (vw ops am F0 F j) → Sto P env ops (vw ops am F0 F j) F h0 h oj := by
        intro hs j oj g1 g2 g3 g4 g5
        rw [bt_add, Bool.or_eq_true, decide_eq_true_eq] at g1
        rcases g1 with g1 | rfl
        · exact I.st j oj g1 g2 g3 g4 g5
        · rw [ho] at g4; injection g4 with g4; subst g4; exact hs g5
      cases c with
      | run k1 k2 k3 k4 k5 k6 k7 k8 c =>
        rw [ho] at k1; injection k1 with k1; subst k1
        have e := (evL_same (cls_l hl) k4).symm
        subst e
        exact ⟨T, _, _, _, _, { I with can := c, ok := q, cov := hcov, wD := fun j o hj => I.wD j o (List.mem_cons_of_mem _ hj), st := stn fun _ => ⟨h, _, _, I.nx, Nat.le_refl _, fun _ _ => rfl, k6, k7, k4, k5⟩ }⟩
      | new k1 k2 _ _ _ _ _ =>
        rw [ho] at k1; injection k1 with k1; subst k1
        rw [cls_not_a (by rw [hl]; simp)] at k2; cases k2
      | skip k1 k2 k3 k4 c =>
        rw [ho] at k1; injection k1 with k1; subst k1
        exact ⟨T, h, _, _, _, { I with can := c, ok := q, cov := hcov, wD := fun j o hj => I.wD j o (List.mem_cons_of_mem _ hj), st := stn fun hr => (hr.not_skips k2).elim }⟩
    · have hcov := cov_add I.cov ho (aw' := aw) (ls' := ls) (fun j => id) (fun j => id) (fun q => by rw [hp] at q; simp at q) (fun q => by rw [hp] at q; simp at q)
      have c := I.can
      cases c with
      | run k1 k2 k3 k4 k5 k6 k7 k8 c =>
        rw [ho] at k1; injection k1 with k1; subst k1
        obtain ⟨v, g1, g2⟩ := evP_any (cls_p hp) (k4 fun v h => some (v, h))
        simp only [Option.some.injEq, Prod.mk.injEq] at g1
        obtain ⟨g0, g1⟩ := g1
        subst g1
        exact ⟨T, _, _, _, _, { I with can := c, ok := q, cov := hcov, wD := fun j o hj => I.wD j o (List.mem_cons_of_mem _ hj) }⟩
      | new k1 k2 _ _ _ _ _ =>
        rw [ho] at k1; injection k1 with k1; subst k1
        rw [cls_not_a (by rw [hp]; simp)] at k2; cases k2
      | skip k1 k2 k3 k4 c => exact ⟨T, h, _, _, _, { I with can := c, ok := q, cov := hcov, wD := fun j o hj => I.wD j o (List.mem_cons_of_mem _ hj) }⟩

theorem Inv.adv {D : Nat → Prop} {M : Inj} {f : Fn} {a : Act} {w : World} {i : Nat} {o : Oper} (ho : ops[i]? = some o) (hc : cls P o.op = .w ∨ cls P o.op = .l) (hpre : ∀ j, bt (am.getD i 0) j = true → D j) :
    ∀ {r : List It} {T : List (Nat × Nat × Blk)} {h : H} {dn aw ls : Nat}, Inv P env ops am F0 F hF M0 h0 w0 n D0 D T r h dn aw ls 0 M f a w → It.op i ∈ r →
    ∃ T' r' h' dn' aw' ls', Inv P env ops am F0 F hF M0 h0 w0 n D0 D T' (.op i :: r') h' dn' aw' ls' 0 M f a w
  | [], _, _, _, _, _, _, hi => by cases hi
  | it :: r, T, h, dn, aw, ls, I, hi => by
    rcases List.mem_cons.1 hi with e | hi2
    · subst e; exact ⟨_, _, _, _, _, _, I⟩
    · obtain ⟨T', h', dn', aw', ls', I'⟩ := I.step1 (fun j oj e hoj hcj => by
        subst e
        obtain ⟨_, _, _, o', ho', hk⟩ := okIt_op I.ok
        rw [hoj] at ho'; injection ho' with ho'; subst ho'
        rcases hk with ⟨_, _, q⟩ | ⟨_, q⟩ | ⟨hl, _, _⟩ | ⟨hp, _⟩
        · exact hpre j (okIt_prev q hi2 ho hc bt_add_self)
        · exact hpre j (okIt_prev q hi2 ho hc bt_add_self)
        · rw [hl] at hcj; simp at hcj
        · rw [hp] at hcj; simp at hcj)
      exact Inv.adv ho hc hpre I' hi2

theorem Inv.chks {D : Nat → Prop} {M : Inj} {f : Fn} {a : Act} {w : World} :
    ∀ {r : List It} {T : List (Nat × Nat × Blk)} {h : H} {dn aw ls nd : Nat}, Inv P env ops am F0 F hF M0 h0 w0 n D0 D T r h dn aw ls nd M f a w →
    ∃ r', Inv P env ops am F0 F hF M0 h0 w0 n D0 D T r' h dn aw ls 0 M f a w
  | [], T, h, dn, aw, ls, nd, I => by
    have := I.ok
    simp only [okIt, Bool.and_eq_true] at this
    have := Nat.eq_of_beq_eq_true this.1
    subst this; exact ⟨_, I⟩
  | .op i :: r, T, h, dn, aw, ls, nd, I => by
    have := (okIt_op I.ok).1
    subst this; exact ⟨_, I⟩
  | .chk i :: r, T, h, dn, aw, ls, nd, I => by
    obtain ⟨q1, q2, q3, _⟩ := okIt_chk I.ok
    have c := I.can
    cases c with
    | chk k1 k2 k3 k4 k5 c =>
      refine Inv.chks (r := r) (nd := delM nd (2 ^ i)) { I with can := c, ok := q3, wD := fun j o hj => I.wD j o (List.mem_cons_of_mem _ hj), st := ?_ }
      intro j oj g1 g2 g3 g4 g5
      rw [bt_del] at g2
      by_cases e : i = j
      · subst e
        rw [k1] at g4; injection g4 with g4; subst g4
        obtain ⟨h1, hk⟩ := k3 g5
        exact ⟨h, _, h1, I.nx, Nat.le_refl _, fun _ _ => rfl, k4, k5, hk, fun d hd => by rw [k2] at hd; injection hd with hd; subst hd; rfl⟩
      · refine I.st j oj g1 ?_ g3 g4 g5
        have : bt (2 ^ i) j = false := by unfold bt; rw [Nat.testBit_two_pow]; simpa using e
        rw [this] at g2
        simpa using g2

theorem Inv.fin {D : Nat → Prop} {M : Inj} {f : Fn} {a : Act} {w : World} (hall : ∀ i, i < ops.size → D i) :
    ∀ {r : List It} {T : List (Nat × Nat × Blk)} {h : H} {dn aw ls : Nat}, Inv P env ops am F0 F hF M0 h0 w0 n D0 D T r h dn aw ls 0 M f a w →
    St P M hF w ∧ Ext M0 h0 w0 M hF w ∧ Fm P n D0 M F a
  | it :: r, T, h, dn, aw, ls, I => by
    obtain ⟨T', h', dn', aw', ls', I'⟩ := I.step1 (fun j o _ ho _ => hall j (Array.getElem?_eq_some_iff.1 ho).1)
    exact Inv.fin hall I'
  | [], T, h, dn, aw, ls, I => by
    have c := I.can
    cases c with
    | nil =>
    have hn : ∀ b, hF.next ≤ b → f b = none ∧ M b = none := by
      intro b hb
      constructor
      · cases hf : f b with
        | none => rfl
        | some x => obtain ⟨_, _, hm, _⟩ := I.er b hb (.inl (by rw [hf]; simp)); cases hm
      · cases hm : M b with
        | none => rfl
        | some x => obtain ⟨_, _, hm, _⟩ := I.er b hb (.inr (by rw [hm]; simp)); cases hm
    have hf : f = hF.get := by
      funext b
      rcases Nat.lt_or_ge b hF.next with hb | hb
      · exact I.fh b hb
      · rw [(hn b hb).1]
        cases hg : hF.get b with
        | none => rfl
        | some x => have := H.get_lt hg; omega
    subst hf
    refine ⟨⟨I.sf.blk, I.sf.exc, fun b i hb => ?_, I.sf.cid⟩, ⟨I.xf.le, I.nx, I.xf.sz, I.xf.keep, I.xf.own, I.xf.fr, I.xf.tape, I.xf.os, I.xf.out⟩, fun t => I.fit t fun i o ho _ => hall i (Array.getElem?_eq_some_iff.1 ho).1, I.sz, I.df⟩
    rcases Nat.lt_or_ge b hF.next with hlt | hge
    · exact hlt
    · rw [(hn b hge).2] at hb; cases hb

/-! one step of a schedule's -/
theorem fit_put {D : Nat → Prop} {M M' : Inj} {a : Act} (_hdis : disD ops = true) (fit : ∀ t, (∀ i o, ops[i]? = some o → o.dst = some t → D i) → VU P M (F t) (a.tmps.getD t undef)) (hle : M.le M') (sz : n ≤ a.tmps.size) {i : Nat} {o : Oper} (ho : ops[i]? = some o)
    (hd : ∀ d, o.dst = some d → d < n) {v' : Value} (hv : ∀ d, o.dst = some d → VU P M' (F d) v') : ∀ t, (∀ j oj, ops[j]? = some oj → oj.dst = some t → D j ∨ j = i) → VU P M' (F t) ((a.put o.dst v').tmps.getD t undef) := by
  intro t ht
  have old : o.dst ≠ some t → VU P M' (F t) (a.tmps.getD t undef) := fun hne => (fit t fun j oj hj hdj => by
    rcases ht j oj hj hdj with h | rfl
    · exact h
    · rw [ho] at hj; injection hj with hj; subst hj; exact absurd hdj hne).mono hle
  cases hdst : o.dst with
  | none => exact old (by rw [hdst]; simp)
  | some d =>
    simp only [Act.put]
    have hlt : d < a.tmps.size := Nat.lt_of_lt_of_le (hd d hdst) sz
    by_cases e : t = d
    · subst e
      have := hv t hdst
      simpa [Array.getD_eq_getD_getElem?, hlt] using this
    · have := old (by rw [hdst]; simpa using fun h => e h.symm)
      have h2 : (a.tmps.setIfInBounds d v')[t]? = a.tmps[t]? := Array.getElem?_setIfInBounds_ne (fun h => e h.symm)
      simpa [Array.getD_eq_getD_getElem?, h2] using this

theorem fit0_put {D : Nat → Prop} {M M' : Inj} {a : Act} (hdis : disD ops = true) (fit0 : ∀ t i o, ops[i]? = some o → o.dst = some t → ¬ D i → VU P M (F0 t) (a.tmps.getD t undef)) (hle : M.le M') {i : Nat} {o : Oper} (ho : ops[i]? = some o) {v' : Value} :
    ∀ t j oj, ops[j]? = some oj → oj.dst = some t → ¬ (D j ∨ j = i) → VU P M' (F0 t) ((a.put o.dst v').tmps.getD t undef) := by
  intro t j oj hoj hdj hn
  have old := (fit0 t j oj hoj hdj fun h => hn (.inl h)).mono hle
  cases hdst : o.dst with
  | none => exact old
  | some d =>
    have hne : d ≠ t := fun e => hn (.inr (disD_at hdis hoj ho hdj (by rw [hdst, e])))
    simp only [Act.put]
    have h2 : (a.tmps.setIfInBounds d v')[t]? = a.tmps[t]? := Array.getElem?_setIfInBounds_ne hne
    simpa [Array.getD_eq_getD_getElem?, h2] using old

theorem wp_skips {Gi : Fr} {M : Inj} {a : Act} {w : World} {o : Oper} {i : Nat} (ho : ops[i]? = some o) (hs : Skips ops o Gi) (hf : Fit P M (mask (o.looksAt ops) Gi) a) (sz : n ≤ a.tmps.size) (df : a.defers = D0) {Q : Exit → Act → World → Prop} {K : Act → World → Prop} (hk : K (a.put o.dst undef) w) : wpOp P ops Q i K a w := by
  have hs := hs.congr (fr' := mask (o.looksAt ops) Gi) fun t ht => (mask_eq t ht).symm
  obtain ⟨j, wt, hg, h1, h2⟩ := hs
  obtain ⟨g1, g2⟩ := guard_snd (ops := ops) (j := j) (⟨hf, sz, df⟩ : Fm P n D0 M _ a)
  have hw : Region.wanted o (yielded ops a.tmps) = false := by
    simp only [Region.wanted, hg]
    by_cases hb : ∃ b, gval ops j (mask (o.looksAt ops) Gi) = .bool b
    · obtain ⟨b, hb⟩ := hb
      rw [g1 b hb]
      have : b ≠ wt := fun e => h2 (by rw [hb, e])
      simpa using this
    · rw [g2 h1 fun b e => hb ⟨b, e⟩]; rfl
  unfold wpOp
  rw [ho]
  simp only [hw, Bool.false_eq_true, if_false]
  exact hk

theorem wp_runs {Gi : Fr} {M : Inj} {a : Act} {w : World} {o : Oper} {i : Nat} (ho : ops[i]? = some o) (hs : Runs ops o Gi) (hf : Fit P M (mask (o.looksAt ops) Gi) a) (sz : n ≤ a.tmps.size) (df : a.defers = D0) {Q : Exit → Act → World → Prop} {K : Act → World → Prop}
    (hk : OpS P (execOp a.eval o) w fun v' w' => K (a.put o.dst v') w') : wpOp P ops Q i K a w := by
  have hs := hs.congr (fr' := mask (o.looksAt ops) Gi) fun t ht => (mask_eq t ht).symm
  have hw : Region.wanted o (yielded ops a.tmps) = true := by
    unfold Runs at hs
    unfold Region.wanted
    cases hg : o.guard with
    | none => rfl
    | some jw =>
      obtain ⟨j, wt⟩ := jw
      rw [hg] at hs
      simp only at hs ⊢
      obtain ⟨g1, g2⟩ := guard_snd (ops := ops) (j := j) (⟨hf, sz, df⟩ : Fm P n D0 M _ a)
      rw [g1 _ hs]; simp
  unfold wpOp
  rw [ho]
  simp only [hw, if_true]
  exact .inl (OpS.wp hk)

theorem put_sz {a : Act} {d : Option Tmp} {v : Value} : (a.put d v).tmps.size = a.tmps.size ∧ (a.put d v).defers = a.defers := by
  cases d <;> simp [Act.put]

/-- an operation that is none of those that write, and none that makes a block -/
theorem Inv.grow {D : Nat → Prop} {T : List (Nat × Nat × Blk)} {r : List It} {h : H} {dn aw ls : Nat} {M M' : Inj} {f : Fn} {a : Act} {w w' : World}
    (I : Inv P env ops am F0 F hF M0 h0 w0 n D0 D T r h dn aw ls 0 M f a w) (hdis : disD ops = true) {i : Nat} {o : Oper} (ho : ops[i]? = some o) (hd : ∀ d, o.dst = some d → d < n) (hnw : cls P o.op ≠ .w) (hT : ∀ b x, (i, b, x) ∉ T)
    (S : SF P M' f w') (X : XF M0 h0 w0 M' f w') (hle : M.le M') (hM : ∀ b, h.next ≤ b → M' b = M b) {v' : Value} (hv : ∀ d, o.dst = some d → VU P M' (F d) v') :
    Inv P env ops am F0 F hF M0 h0 w0 n D0 (fun j => D j ∨ j = i) T r h dn aw ls 0 M' f (a.put o.dst v') w' where
  can := I.can
  ok := I.ok
  awD j hj := .inl (I.awD j hj)
  wD j oj hj hoj hc := by
    rintro (h | rfl)
    · exact I.wD j oj hj hoj hc h
    · rw [ho] at hoj; injection hoj with hoj; subst hoj; exact hnw hc
  sf := S
  xf := X
  nx := I.nx
  fh := I.fh
  er b hb hn := by
    rw [hM b hb] at hn
    obtain ⟨j, x, h1, h2⟩ := I.er b hb hn
    exact ⟨j, x, h1, .inl h2⟩
  ea j b x hm hj := by
    rcases hj with hj | rfl
    · exact I.ea j b x hm hj
    · exact absurd hm (hT b x)
  st j oj g1 g2 g3 := I.st j oj g1 g2 fun h => g3 (.inl h)
  cov := I.cov
  fit := fit_put hdis I.fit hle I.sz ho hd hv
  fit0 := fit0_put hdis I.fit0 hle ho
  sz := by rw [put_sz.1]; exact I.sz
  df := by rw [put_sz.2]; exact I.df

theorem Can.uniq {G : Nat → Fr} {T : List (Nat × Nat × Blk)} {r : List It} {h : H} (c : Can P env ops F G hF T r h) : ∀ {dn aw ls nd : Nat}, okIt P ops am dn aw ls nd r = true → ∀ i b x b' x', (i, b, x) ∈ T → (i, b', x') ∈ T → b = b' := by
  induction c with
  | nil => intro _ _ _ _ _ i b x b' x' h; cases h
  | run _ _ _ _ _ _ _ _ _ ih => intro _ _ _ _ hok; obtain ⟨_, _, _, hok, _⟩ := okIt_tail hok; exact ih hok
  | new _ _ _ _ _ _ c ih =>
    intro _ _ _ _ hok i b x b' x' h1 h2
    obtain ⟨_, _, _, hok, _⟩ := okIt_tail hok
    have no : ∀ i0 b x, (i0, b, x) ∈ _ → _ := fun i0 b x hm => okIt_new hok (c.mem i0 b x hm).1
    rcases List.mem_cons.1 h1 with e1 | h1 <;> rcases List.mem_cons.1 h2 with e2 | h2
    · simp only [Prod.mk.injEq] at e1 e2; exact e1.2.1.trans e2.2.1.symm
    · simp only [Prod.mk.injEq] at e1
      have := no _ _ _ h2
      rw [e1.1, bt_add_self] at this; cases this
    · simp only [Prod.mk.injEq] at e2
      have := no _ _ _ h1
      rw [e2.1, bt_add_self] at this; cases this
    · exact ih hok i b x b' x' h1 h2
  | skip _ _ _ _ _ ih => intro _ _ _ _ hok; obtain ⟨_, _, _, hok, _⟩ := okIt_tail hok; exact ih hok
  | chk _ _ _ _ _ _ ih => intro _ _ _ _ hok; exact ih (okIt_chk hok).2.2.1

/-- what each operation of the region comes to -/
def Each (P : Program) (env : Env) (ops : Array Oper) (F : Fr) (G : Nat → Fr) : Prop := ∀ i, i < ops.size → ∃ o, ops[i]? = some o ∧
  ((Runs ops o (G i) ∧ (isA P o.op = true ∨ ∃ h v h1, (∀ k2, evOp P env o.op (G i) h k2 = k2 v h1) ∧ ∀ d, o.dst = some d → F d = v)) ∨ (Skips ops o (G i) ∧ ∀ d, o.dst = some d → F d = .undef))

theorem Inv.exec (E : EnvS P env) (L : Lay P) (hdst : dstOk n ops = true) (hlk : lkOk ops am = true) (hdis : disD ops = true) (hE : Each P env ops F (vw ops am F0 F)) {D : Nat → Prop} {T : List (Nat × Nat × Blk)} {r : List It} {h : H} {dn aw ls : Nat} {M : Inj} {f : Fn} {a : Act} {w : World}
    (I : Inv P env ops am F0 F hF M0 h0 w0 n D0 D T r h dn aw ls 0 M f a w) {i : Nat} (hi : i < ops.size) (hD : ¬ D i) (hpre : ∀ j, bt (am.getD i 0) j = true → D j) (hback : ∀ j oj, ops[j]? = some oj → bt (am.getD j 0) i = true → ¬ D j) {Q : Exit → Act → World → Prop} {K : Act → World → Prop}
    (hk : ∀ a' w' T' r' h' dn' aw' ls' M' f', Inv P env ops am F0 F hF M0 h0 w0 n D0 (fun j => D j ∨ j = i) T' r' h' dn' aw' ls' 0 M' f' a' w' → K a' w') : wpOp P ops Q i K a w := by
  obtain ⟨o, ho, hcase⟩ := hE i hi
  have hd := dstOk_get hdst ho
  have hfm : Fit P M (mask (o.looksAt ops) (vw ops am F0 F i)) a := by
    intro t
    by_cases ht : t ∈ o.looksAt ops
    · rw [mask_eq t ht]
      by_cases hw : ∃ j oj, ops[j]? = some oj ∧ oj.dst = some t ∧ bt (am.getD i 0) j = false
      · obtain ⟨j, oj, hoj, hdj, hb⟩ := hw
        rw [vw_old hoj hdj hb]
        refine I.fit0 t j oj hoj hdj ?_
        rcases lkOk_at hlk ho hoj ht hdj with h1 | h1 | h1
        · rw [hb] at h1; cases h1
        · subst h1; exact hD
        · exact hback j oj hoj h1
      · have hall : ∀ j oj, ops[j]? = some oj → oj.dst = some t → bt (am.getD i 0) j = true := fun j oj h1 h2 => by
          cases hb : bt (am.getD i 0) j with
          | true => rfl
          | false => exact absurd ⟨j, oj, h1, h2, hb⟩ hw
        rw [vw_new hall]
        exact I.fit t fun j oj hj hdj => hpre j (hall j oj hj hdj)
    · exact .inl (by simp [mask, ht])
  have hcut : ∀ N, (∀ t ∈ o.looksAt ops, Bd N (vw ops am F0 F i t)) → Fit P (M.cut N) (mask (o.looksAt ops) (vw ops am F0 F i)) a := by
    intro N hb t
    by_cases ht : t ∈ o.looksAt ops
    · have := hfm t
      rw [mask_eq t ht] at this ⊢
      exact this.to (fun _ _ h1 h2 => Inj.cut_of h1 h2) (hb t ht)
    · exact .inl (by simp [mask, ht])
  have hmk : ∀ h k2, evOp P env o.op (mask (o.looksAt ops) (vw ops am F0 F i)) h k2 = evOp P env o.op (vw ops am F0 F i) h k2 := fun h k2 => evOp_congr (evO_congr (mask_eq (F := vw ops am F0 F i))) h k2
  cases hc : cls P o.op with
  | w =>
    -- to the front, and on
    have hin : It.op i ∈ r := by
      rcases okIt_all I.ok hi with h | h
      · exact absurd (I.awD i ((I.cov i o h ho).2 (.inr hc))) hD
      · exact h
    obtain ⟨T, r, h, dn, aw, ls, I⟩ := I.adv ho (.inl hc) hpre hin
    obtain ⟨_, q1, q2, o', ho', hcl⟩ := okIt_op I.ok
    rw [ho] at ho'; injection ho' with ho'; subst ho'
    rcases hcl with ⟨_, _, q⟩ | ⟨k, _⟩ | ⟨k, _⟩ | ⟨k, _⟩
    rotate_left
    · rw [hc] at k; cases k
    · rw [hc] at k; cases k
    · rw [hc] at k; cases k
    have notin : It.op i ∉ r := fun hm => by have := okIt_new q hm; rw [bt_add_self] at this; cases this
    -- the rest is alike, whether it ran or not
    have after : ∀ h1 (M' : Inj) (f' : Fn) v' w', Can P env ops F (vw ops am F0 F) hF T r h1 → h.next ≤ h1.next → SF P M' f' w' → XF M0 h0 w0 M' f' w' → M.le M' → (∀ b, b < h1.next → f' b = h1.get b) → (∀ b, h1.next ≤ b → f' b = f b ∧ M' b = M b) → (∀ d, o.dst = some d → VU P M' (F d) v') → K (a.put o.dst v') w' := by
      intro h1 M' f' v' w' c hle S X hM g1 g2 hv
      have I2 : Inv P env ops am F0 F hF M0 h0 w0 n D0 (fun j => D j ∨ j = i) T r h1 (addM dn i) (addM aw i) ls (delM ls (am.getD i 0)) M' f' (a.put o.dst v') w' := {
        can := c
        ok := q
        awD := fun j hj => by
          rw [bt_add, Bool.or_eq_true, decide_eq_true_eq] at hj
          rcases hj with hj | rfl
          · exact .inl (I.awD j hj)
          · exact .inr rfl
        wD := fun j oj hj hoj hcj => by
          rintro (hD | rfl)
          · exact I.wD j oj (List.mem_cons_of_mem _ hj) hoj hcj hD
          · exact notin hj
        sf := S
        xf := X
        nx := Nat.le_trans I.nx hle
        fh := g1
        er := fun b hb hn => by
          rw [(g2 b hb).1, (g2 b hb).2] at hn
          obtain ⟨j, x, h1, h2⟩ := I.er b (Nat.le_trans hle hb) hn
          exact ⟨j, x, h1, .inl h2⟩
        ea := fun j b x hm hj => by
          rcases hj with hj | rfl
          · rw [(g2 b (c.num.2 j b x hm).1).1]; exact I.ea j b x hm hj
          · exact absurd (c.mem j b x hm).1 notin
        st := fun j oj k1 k2 k3 => by
          rw [bt_del, k1, Bool.true_and, Bool.not_eq_false'] at k2
          exact absurd (.inl (hpre j k2)) k3
        cov := cov_add I.cov ho (fun j => bt_add_of) (fun j => id) (fun k => by rw [hc] at k; cases k) (fun _ => bt_add_self)
        fit := fit_put hdis I.fit hM I.sz ho hd hv
        fit0 := fit0_put hdis I.fit0 hM ho
        sz := by rw [put_sz.1]; exact I.sz
        df := by rw [put_sz.2]; exact I.df }
      obtain ⟨r', I3⟩ := I2.chks
      exact hk _ _ _ _ _ _ _ _ _ _ I3
    have c := I.can
    cases c with
    | @run _ _ _ _ o' v h1 k1 k2 k3 k4 k5 k6 k7 k8 c =>
      rw [ho] at k1; injection k1 with k1; subst k1
      refine wp_runs ho k3 hfm I.sz I.df ?_
      have S := I.sf.cut (hs := h) (fun b x g => by rw [I.fh b (H.get_lt g)]; exact g) k6
      obtain ⟨v2, h2, g1, g2⟩ := evOp_snd E L S (hcut _ k7) (o := o) (by rw [hmk]; exact k4 fun v h => some (v, h))
      simp only [Option.some.injEq, Prod.mk.injEq] at g1
      have g1a := g1.1.symm
      have g1b := g1.2.symm
      subst g1a; subst g1b
      refine OpS.mono g2 ?_
      rintro v' w' ⟨M', S', X', hv⟩
      have gap : ∀ b, h.next ≤ b → b < h1.next → M b = none := by
        intro b hb1 hb2
        cases hm : M b with
        | none => rfl
        | some y =>
          obtain ⟨j, x, hm, _⟩ := I.er b hb1 (.inr (by rw [hm]; simp))
          have := (c.num.2 j b x hm).1; omega
      obtain ⟨q1, q2, q3, q4⟩ := I.sf.write I.xf I.fh I.nx gap S' X'
      exact after h1 _ _ v' w' c k8 q1 q2 q3 (fun b hb => by simp [hb]) (fun b hb => ⟨if_neg (Nat.not_lt.2 hb), if_neg (Nat.not_lt.2 hb)⟩) (fun d hd => by rw [k5 d hd]; exact hv.mono q4)
    | new k1 k2 _ _ _ _ _ =>
      rw [ho] at k1; injection k1 with k1; subst k1
      rw [cls_not_a (by rw [hc]; simp)] at k2; cases k2
    | skip k1 k2 k3 k4 c =>
      rw [ho] at k1; injection k1 with k1; subst k1
      refine wp_skips ho k2 hfm I.sz I.df ?_
      exact after h M f undef w c (Nat.le_refl _) I.sf I.xf (.refl _) I.fh (fun b _ => ⟨rfl, rfl⟩) (fun d hd => by rw [k3 d hd]; exact .inr (by simp))
  | a =>
    have hin : It.op i ∈ r := by
      rcases okIt_all I.ok hi with h | h
      · exact absurd (I.awD i ((I.cov i o h ho).2 (.inl hc))) hD
      · exact h
    rcases hcase with ⟨hR, _⟩ | ⟨hS, hF0⟩
    · obtain ⟨b, x, vf, t1, t2, t3⟩ := I.can.getA i o hin ho (cls_a hc) hR
      refine wp_runs ho hR hfm I.sz I.df (OpS.mono (t2 a w M hfm) ?_)
      intro v' w' N
      have hnum := I.can.num.2 i b x t1
      have hfree : M b = none := by
        cases hm : M b with
        | none => rfl
        | some y =>
          obtain ⟨j, x', hm, hDj⟩ := I.er b hnum.1 (.inr (by rw [hm]; simp))
          obtain ⟨rfl, _⟩ := I.can.inj _ _ _ _ _ t1 hm
          exact absurd hDj hD
      obtain ⟨M', S', X', hle, hM, hv⟩ := I.sf.new I.xf N hfree (Nat.le_trans I.nx hnum.1)
      refine hk _ _ T r h dn aw ls M' (fun b' => if b' = b then some x else f b') {
        can := I.can
        ok := I.ok
        awD := fun j hj => .inl (I.awD j hj)
        wD := fun j oj hj hoj hcj => by
          rintro (h | rfl)
          · exact I.wD j oj hj hoj hcj h
          · rw [ho] at hoj; injection hoj with hoj; subst hoj; rw [hc] at hcj; cases hcj
        sf := S'
        xf := X'
        nx := I.nx
        fh := fun b' hb' => by
          have : b' ≠ b := by omega
          simp only [this, if_false]; exact I.fh b' hb'
        er := fun b' hb' hn => by
          by_cases e : b' = b
          · subst e; exact ⟨i, x, t1, .inr rfl⟩
          · simp only [e, if_false] at hn
            rw [hM b' e] at hn
            obtain ⟨j, y, h1, h2⟩ := I.er b' hb' hn
            exact ⟨j, y, h1, .inl h2⟩
        ea := fun j b' y hm hj => by
          rcases hj with hj | rfl
          · have : b' ≠ b := by
              rintro rfl
              obtain ⟨rfl, _⟩ := I.can.inj _ _ _ _ _ t1 hm
              exact hD hj
            simp only [this, if_false]; exact I.ea j b' y hm hj
          · have hbb := I.can.uniq I.ok _ _ _ _ _ hm t1
            subst hbb
            obtain ⟨_, rfl⟩ := I.can.inj _ _ _ _ _ hm t1
            simp
        st := fun j oj g1 g2 g3 => I.st j oj g1 g2 fun h => g3 (.inl h)
        cov := I.cov
        fit := fit_put hdis I.fit hle I.sz ho hd fun d hd => by rw [t3 d hd]; exact .inr hv
        fit0 := fit0_put hdis I.fit0 hle ho
        sz := by rw [put_sz.1]; exact I.sz
        df := by rw [put_sz.2]; exact I.df }
    · refine wp_skips ho hS hfm I.sz I.df ?_
      exact hk _ _ _ _ _ _ _ _ _ _ (I.grow hdis ho hd (by rw [hc]; simp) (fun b x hm => by
        obtain ⟨_, o', ho', _, hR⟩ := I.can.mem i b x hm
        rw [ho] at ho'; injection ho' with ho'; subst ho'; exact hR.not_skips hS) I.sf I.xf (.refl _) (fun _ _ => rfl) fun d hd => by rw [hF0 d hd]; exact .inr (by simp))
  | l =>
    have hnA : isA P o.op = false := cls_not_a (by rw [hc]; simp)
    have hnT : ∀ T r h, Can P env ops F (vw ops am F0 F) hF T r h → ∀ b x, (i, b, x) ∉ T := fun T r h c b x hm => by
      obtain ⟨_, o', ho', hA, _⟩ := c.mem i b x hm
      rw [ho] at ho'; injection ho' with ho'; subst ho'; rw [hnA] at hA; cases hA
    rcases hcase with ⟨hR, _⟩ | ⟨hS, hF0⟩
    · -- with what it found
      have main : ∀ {T r h dn aw ls}, Inv P env ops am F0 F hF M0 h0 w0 n D0 D T r h dn aw ls 0 M f a w → Sto P env ops (vw ops am F0 F i) F h0 h o → wpOp P ops Q i K a w := by
        intro T r h dn aw ls I ⟨hs, v, h1, s1, s2, s3, s4, s5, s6, s7⟩
        have e := evL_same (cls_l hc) s6
        subst e
        refine wp_runs ho hR hfm I.sz I.df ?_
        have hfs : ∀ b, b < h1.next → f b = h1.get b := fun b hb => by rw [I.fh b (by omega)]; exact s3 b hb
        have S := I.sf.cut (hs := h1) (fun b x g => by rw [hfs b (H.get_lt g)]; exact g) s4
        obtain ⟨v2, h2, g1, g2⟩ := evOp_snd E L S (hcut _ s5) (o := o) (by rw [hmk]; exact s6 fun v h => some (v, h))
        simp only [Option.some.injEq, Prod.mk.injEq] at g1
        have g1a := g1.1.symm
        have g1b := g1.2.symm
        subst g1a; subst g1b
        refine OpS.mono g2 ?_
        rintro v' w' ⟨M', S', X', hv⟩
        obtain ⟨q1, q2, q3, q4⟩ := I.sf.write I.xf hfs s1 (fun b hb1 hb2 => by omega) S' X'
        have hf : (fun b => if b < h1.next then h1.get b else f b) = f := by
          funext b
          by_cases hb : b < h1.next
          · simp only [hb, if_true]; exact (hfs b hb).symm
          · simp only [hb, if_false]
        rw [hf] at q1 q2
        exact hk _ _ _ _ _ _ _ _ _ _ (I.grow hdis ho hd (by rw [hc]; simp) (hnT _ _ _ I.can) q1 q2 q3 (fun b hb => if_neg (Nat.not_lt.2 (Nat.le_trans s2 hb))) fun d hd => by rw [s7 d hd]; exact hv.mono q4)
      rcases okIt_all I.ok hi with hin | hin
      · exact main I (I.st i o ((I.cov i o hin ho).1 hc) (bt_zero i) hD ho hR)
      · obtain ⟨T, r, h, dn, aw, ls, I⟩ := I.adv ho (.inr hc) hpre hin
        have c := I.can
        cases c with
        | run k1 k2 k3 k4 k5 k6 k7 k8 c =>
          rw [ho] at k1; injection k1 with k1; subst k1
          exact main I ⟨h, _, _, I.nx, Nat.le_refl _, fun _ _ => rfl, k6, k7, k4, k5⟩
        | new k1 k2 _ _ _ _ _ => rw [ho] at k1; injection k1 with k1; subst k1; rw [hnA] at k2; cases k2
        | skip k1 k2 k3 k4 c => rw [ho] at k1; injection k1 with k1; subst k1; exact (hR.not_skips k2).elim
    · refine wp_skips ho hS hfm I.sz I.df ?_
      exact hk _ _ _ _ _ _ _ _ _ _ (I.grow hdis ho hd (by rw [hc]; simp) (hnT _ _ _ I.can) I.sf I.xf (.refl _) (fun _ _ => rfl) fun d hd => by rw [hF0 d hd]; exact .inr (by simp))
  | p =>
    have hnA : isA P o.op = false := cls_not_a (by rw [hc]; simp)
    have hnT : ∀ b x, (i, b, x) ∉ T := fun b x hm => by
      obtain ⟨_, o', ho', hA, _⟩ := I.can.mem i b x hm
      rw [ho] at ho'; injection ho' with ho'; subst ho'; rw [hnA] at hA; cases hA
    rcases hcase with ⟨hR, hA | ⟨h', v, h1, e1, e2⟩⟩ | ⟨hS, hF0⟩
    · rw [hnA] at hA; cases hA
    · refine wp_runs ho hR hfm I.sz I.df ?_
      obtain ⟨v0, g0, g1⟩ := evP_any (cls_p hc) (e1 fun v h => some (v, h))
      have e3 := (e1 fun v h => some (v, h)).symm.trans (g1 h' fun v h => some (v, h))
      simp only [Option.some.injEq, Prod.mk.injEq] at e3
      obtain ⟨rfl, rfl⟩ := e3
      have hN : ∀ b i, M b = some i → b < hF.next := by
        intro b j hb
        rcases Nat.lt_or_ge b h.next with h1 | h1
        · exact Nat.lt_of_lt_of_le h1 I.can.num.1
        · obtain ⟨j, x, hm, _⟩ := I.er b h1 (.inr (by rw [hb]; simp))
          exact (I.can.num.2 j b x hm).2
      have S := St.nothing I.sf hN
      obtain ⟨v2, h2, g3, g4⟩ := evOp_snd E L S hfm (o := o) (by rw [hmk]; exact g1 _ fun v h => some (v, h))
      simp only [Option.some.injEq, Prod.mk.injEq] at g3
      obtain ⟨rfl, rfl⟩ := g3
      refine OpS.mono g4 ?_
      rintro v' w' ⟨M', S', X', hv⟩
      obtain ⟨q1, q2, q3⟩ := I.sf.idle I.xf S' X'
      exact hk _ _ _ _ _ _ _ _ _ _ (I.grow hdis ho hd (by rw [hc]; simp) hnT q1 q2 (.refl _) (fun _ _ => rfl) fun d hd => by rw [e2 d hd]; exact hv.mono q3)
    · refine wp_skips ho hS hfm I.sz I.df ?_
      exact hk _ _ _ _ _ _ _ _ _ _ (I.grow hdis ho hd (by rw [hc]; simp) hnT I.sf I.xf (.refl _) (fun _ _ => rfl) fun d hd => by rw [hF0 d hd]; exact .inr (by simp))

/-! all schedules -/
def Dl (listed : Array Bool) : Nat → Prop := fun i => listed.getD i false = true
theorem count_set : ∀ {l : List Bool} {i : Nat}, l[i]? = some false → (l.set i true).count false + 1 = l.count false
  | [], i, h => by simp at h
  | x :: l, 0, h => by
    simp at h; subst h
    simp
  | x :: l, i + 1, h => by
    simp at h
    have := count_set h
    simp only [List.set_cons_succ, List.count_cons]
    omega
theorem count_zero : ∀ {l : List Bool} {i : Nat}, l.count false = 0 → i < l.length → l[i]? = some true
  | x :: l, 0, h, _ => by cases x <;> simp at h ⊢
  | x :: l, i + 1, h, hi => by
    simp only [List.count_cons] at h
    have := count_zero (l := l) (i := i) (by omega) (by simpa using hi)
    simpa using this
theorem Dl_set {listed : Array Bool} {i : Nat} (hi : i < listed.size) : Dl (listed.setIfInBounds i true) = fun j => Dl listed j ∨ j = i := by
  funext j
  unfold Dl
  apply propext
  simp only [Array.getD_eq_getD_getElem?]
  by_cases e : j = i
  · subst e; simp [hi]
  · have : (listed.setIfInBounds i true)[j]? = listed[j]? := Array.getElem?_setIfInBounds_ne (fun h => e h.symm)
    rw [this]; simp [e]

theorem any_of (E : EnvS P env) (L : Lay P) (hdst : dstOk n ops = true) {ord : List Nat} (ham : okAm ops am ord = true) (hlk : lkOk ops am = true) (hdis : disD ops = true) (hE : Each P env ops F (vw ops am F0 F)) {Q : Exit → Act → World → Prop}
    (hQ : ∀ M a w, St P M hF w → Ext M0 h0 w0 M hF w → Fm P n D0 M F a → Q .normal a w) :
    ∀ (fuel : Nat) (listed : Array Bool) (a : Act) (w : World) {T : List (Nat × Nat × Blk)} {r : List It} {h : H} {dn aw ls : Nat} {M : Inj} {f : Fn}, listed.size = ops.size → listed.toList.count false ≤ fuel → Closed ops (Dl listed) →
      Inv P env ops am F0 F hF M0 h0 w0 n D0 (Dl listed) T r h dn aw ls 0 M f a w → wpAny P .any ops Q fuel listed a w := by
  -- when nothing is ready all are done
  have done : ∀ (listed : Array Bool), listed.size = ops.size → Region.ready .any ops listed = [] → ∀ i, i < ops.size → Dl listed i := by
    intro listed hsz hr
    have key : ∀ (k i : Nat), rankOf ord i = k → i < ops.size → Dl listed i := by
      intro k
      induction k using Nat.strongRecOn with
      | _ k ih =>
      intro i hk hi
      cases hb : listed.getD i false with
      | true => exact hb
      | false =>
        exfalso
        have hm : i ∈ Region.ready .any ops listed := by
          rw [mem_ready]
          have hl : i < listed.size := by omega
          refine ⟨?_, ops[i], Array.getElem?_eq_getElem hi, fun e he hb2 => ?_⟩
          · simp only [Array.getD_eq_getD_getElem?, Array.getElem?_eq_getElem hl, Option.getD_some] at hb ⊢; exact hb
          · obtain ⟨hs, hlt⟩ := (okAm_at ham (Array.getElem?_eq_getElem hi)).1 e he hb2
            exact ih (rankOf ord e.on) (by omega) e.on rfl hs
        rw [hr] at hm; cases hm
    exact fun i => key _ i rfl
  have fin : ∀ (listed : Array Bool) (a : Act) (w : World) {T : List (Nat × Nat × Blk)} {r : List It} {h : H} {dn aw ls : Nat} {M : Inj} {f : Fn}, (∀ i, i < ops.size → Dl listed i) → Inv P env ops am F0 F hF M0 h0 w0 n D0 (Dl listed) T r h dn aw ls 0 M f a w → Q .normal a w := by
    intro listed a w T r h dn aw ls M f hall I
    obtain ⟨q1, q2, q3⟩ := I.fin hall
    exact hQ _ _ _ q1 q2 q3
  intro fuel
  induction fuel with
  | zero =>
    intro listed a w T r h dn aw ls M f hsz hcount _ I
    have hall : ∀ i, i < ops.size → Dl listed i := fun i hi => by
      have hc := count_zero (l := listed.toList) (i := i) (by omega) (by simpa [hsz] using hi)
      unfold Dl
      rw [Array.getD_eq_getD_getElem?]
      simpa using congrArg (·.getD false) hc
    refine ⟨?_, fin _ _ _ hall I⟩
    cases hr : Region.ready .any ops listed with
    | nil => rfl
    | cons i l =>
      exfalso
      have hm : i ∈ Region.ready .any ops listed := by rw [hr]; exact List.mem_cons_self ..
      rw [mem_ready] at hm
      obtain ⟨h1, o, ho, _⟩ := hm
      have hi := (Array.getElem?_eq_some_iff.1 ho).1
      have := hall i hi
      unfold Dl at this
      have hl : i < listed.size := by omega
      simp only [Array.getD_eq_getD_getElem?, Array.getElem?_eq_getElem hl, Option.getD_some] at h1 this
      rw [h1] at this; cases this
  | succ fuel ih =>
    intro listed a w T r h dn aw ls M f hsz hcount hcl I
    refine ⟨fun hr => fin _ _ _ (done listed hsz hr) I, fun i hm => ?_⟩
    rw [mem_ready] at hm
    obtain ⟨h1, o, ho, he⟩ := hm
    have hi := (Array.getElem?_eq_some_iff.1 ho).1
    have hl : i < listed.size := by omega
    have hb : listed[i]? = some false := by
      simp only [Array.getD_eq_getD_getElem?, Array.getElem?_eq_getElem hl, Option.getD_some] at h1
      rw [Array.getElem?_eq_getElem hl, h1]
    have hD : ¬ Dl listed i := by unfold Dl; rw [Array.getD_eq_getD_getElem?, hb]; simp
    refine I.exec E L hdst hlk hdis hE hi hD (anc_mem ham hcl _ i o rfl ho he) (fun j oj hoj hb hDj => hD (closed_anc ham hcl hoj hDj hb)) ?_
    intro a' w' T' r' h' dn' aw' ls' M' f' I'
    rw [← Dl_set hl] at I'
    refine ih (listed.setIfInBounds i true) a' w' (by simpa using hsz) ?_ ?_ I'
    · have := count_set (l := listed.toList) (i := i) (by simpa using hb)
      simp only [Array.toList_setIfInBounds]
      omega
    · rw [Dl_set hl]
      intro j oj hoj hj e hej hbe
      rcases hj with hj | rfl
      · exact .inl (hcl j oj hoj hj e hej hbe)
      · rw [ho] at hoj; injection hoj with hoj; subst hoj; exact .inl (he e hej hbe)
end

/-- **a region that draws its order**: any order comes to what the machine's one list comes to -/
theorem rk_snd {env : Env} (E : EnvS P env) (L : Lay P) (hm : P.follows .mixedOrders = true) {n : Nat} {ops : Array Oper} {l : List It} (hdst : dstOk n ops = true) (hrk : rk P ops l = true) : RegS P env n ops l := by
  intro D M0 h0 w0 k r Q hk id fr h a w N he
  unfold rk rkWith at hrk
  simp only [Bool.and_eq_true] at hrk
  obtain ⟨⟨⟨ham, hlk⟩, hdis⟩, hok⟩ := hrk
  obtain ⟨M, S, X, Fm0⟩ := N.ex
  obtain ⟨F, hF, T, k1, c, k3⟩ := can_of (F0 := fr) E L hdst hlk hdis he hok ⟨M, w, D, a, S, Fm0⟩ (fun _ _ => rfl) (fun j hj => by rw [bt_zero] at hj; cases hj)
  have hE : Each P env ops F (vw ops _ fr F) := fun i hi => c.each i (by
    rcases okIt_all hok hi with h | h
    · rw [bt_zero] at h; cases h
    · exact h)
  let w1 : World := { w with drawn := w.drawn + 1 }
  have S1 : St P M h w1 := S.same rfl
  have X1 : Ext M h w M h w1 := Ext.same _ _ rfl rfl rfl rfl
  refine wp_region_any hm ?_
  refine any_of (M0 := M) (h0 := h) (w0 := w1) (D0 := D) E L hdst ham hlk hdis hE (fun M' a' w' s x f => hk F hF a' w' k1 ⟨M', s, (X.trans X1).trans x, f⟩) ops.size (Array.replicate ops.size false) a w1 (T := T) (r := l) (h := h) (dn := 0) (aw := 0) (ls := 0) (M := M) (f := h.get) (by simp) ?_ ?_ ?_
  · simp
  · intro i o ho hi
    unfold Dl at hi
    simp [Array.getD_eq_getD_getElem?, Array.getElem?_replicate] at hi
    split at hi <;> simp at hi
  · have hno : ∀ i, ¬ Dl (Array.replicate ops.size false) i := fun i hi => by
      unfold Dl at hi
      simp [Array.getD_eq_getD_getElem?, Array.getElem?_replicate] at hi
      split at hi <;> simp at hi
    exact {
      can := c
      ok := hok
      awD := fun i hi => by rw [bt_zero] at hi; cases hi
      wD := fun i o _ _ _ => hno i
      sf := SF.of S1
      xf := XF.refl M h w1
      nx := Nat.le_refl _
      fh := fun _ _ => rfl
      er := fun b hb hn => by
        exfalso
        rcases hn with hn | hn
        · cases hg : h.get b with
          | none => exact hn hg
          | some x => have := H.get_lt hg; omega
        · cases hg : M b with
          | none => exact hn hg
          | some x => have := S.dom _ _ hg; omega
      ea := fun i b x _ hi => (hno i hi).elim
      st := fun i o h => by rw [bt_zero] at h; cases h
      cov := fun i o h => by rw [bt_zero] at h; cases h
      fit := fun t ht => by rw [k3 t fun i o hi ho hd => hno i (ht i o ho hd)]; exact Fm0.fit t
      fit0 := fun t i o _ _ _ => Fm0.fit t
      sz := Fm0.sz
      df := Fm0.df }
end Go.AM

namespace Go.AM
open Go
variable {P : Program}

/-! a function that defers one call of a function value -/
def J0 : JT := fun _ _ _ => none

theorem evC_snd0 {env : Env} (E : EnvS P env) (L : Lay P) {n : Nat} {rk : Array Oper → List It → Bool} (hrk : ∀ ops l, dstOk n ops = true → rk ops l = true → RegS P env n ops l) {D : List Deferred} {M0 : Inj} {h0 : H} {w0 : World} {r : V × H} :
    ∀ (a : An) {c : Code} {k : K} {Q : Exit → Act → World → Prop}, (∀ l a w, ¬ Q (.goto l) a w) → KS P n D M0 h0 w0 r k Q → codeOk n rk a c = true →
    ∀ {fr h s w}, Now P n D M0 h0 w0 fr h s w → evC P env J0 a c fr h k = some r → c.wp P Q s w := by
  intro a
  induction a with
  | leaf =>
    intro c k Q hq hk ho fr h s w N he
    cases c <;> try simp only [evC, reduceCtorEq] at he
    case skip => exact wp_skip (hk _ _ _ _ _ he N)
    case label => exact wp_label (hk _ _ _ _ _ he N)
    case exit id => exact wp_exit (hk _ _ _ _ _ he N)
    case ret => exact wp_ret (hk _ _ _ _ _ he N)
    case region id ops dr =>
      cases dr with
      | true => cases ho
      | false =>
        simp only [codeOk] at ho
        simp only [evC] at he
        exact wp_region (evOps_snd E L ho (fun fr1 h1 a1 w1 g1 g2 => hk .normal _ _ _ _ g1 g2) N he)
  | reg l =>
    intro c k Q hq hk ho fr h s w N he
    cases c <;> try simp only [codeOk, Bool.false_eq_true] at ho
    rename_i id ops dr
    cases dr with
    | false => simp [codeOk] at ho
    | true =>
      simp only [codeOk, Bool.and_eq_true] at ho
      simp only [evC] at he
      exact hrk ops l ho.1 ho.2 (fun fr1 h1 a1 w1 g1 g2 => hk .normal _ _ _ _ g1 g2) N he
  | n1 a iha =>
    intro c k Q hq hk ho fr h s w N he
    cases c <;> simp only [codeOk, Bool.false_eq_true] at ho
    case block id x =>
      simp only [evC] at he
      refine wp_block (iha (Q := Exit.inBlock id Q) (fun l a w hh => ?_) ?_ ho N he)
      · simp only [Exit.inBlock] at hh; exact hq _ _ _ hh
      intro e fr1 h1 a1 w1 g1 g2
      cases e with
      | normal => exact hk .normal _ _ _ _ g1 g2
      | ret => exact hk .ret _ _ _ _ g1 g2
      | exit i =>
        simp only [kBlock, beq_eq] at g1
        simp only [Ex.to, Exit.inBlock]
        by_cases e : i = id
        · subst e
          simp only [decide_true, cond_true] at g1
          simp only [if_true]
          exact hk .normal _ _ _ _ g1 g2
        · simp only [e, decide_false, cond_false] at g1
          simp only [e, if_false]
          exact hk (.exit i) _ _ _ _ g1 g2
    case scope x =>
      simp only [evC] at he
      refine wp_scope_straight (wp_mono (iha hq hk ho N he) ?_)
      intro e a1 w1 hh
      cases e <;> first
        | exact hh
        | exact (hq _ _ _ hh).elim
  | n2 a b iha ihb =>
    intro c k Q hq hk ho fr h s w N he
    cases c <;> simp only [codeOk, Bool.and_eq_true, Bool.false_eq_true] at ho
    case seq x y =>
      simp only [evC] at he
      refine wp_seq (iha (Q := Exit.then (y.wp P Q) Q) (fun l a w hh => ?_) ?_ ho.1 N he)
      · simp only [Exit.then] at hh; exact hq _ _ _ hh
      intro e fr1 h1 a1 w1 g1 g2
      cases e with
      | normal => exact ihb hq hk ho.2 g2 g1
      | ret => exact hk .ret _ _ _ _ g1 g2
      | exit i => exact hk (.exit i) _ _ _ _ g1 g2
    case cond c0 x y =>
      simp only [evC] at he
      obtain ⟨M, S, X, F⟩ := N.ex
      unfold cnd at he
      split at he
      · rename_i t ht
        have hv := evO_VU F.fit c0
        rw [ht] at hv
        have hv := hv.bool
        cases t with
        | true => exact wp_cond_true hv (iha hq hk ho.1 N he)
        | false => exact wp_cond_false hv (ihb hq hk ho.2 N he)
      · cases he
  | loop id live a iha =>
    intro c k Q hq hk ho fr h s w N he
    cases c <;> simp only [codeOk, Bool.false_eq_true] at ho
    simp only [evC, J0, reduceCtorEq] at he
  | join id live a iha =>
    intro c k Q hq hk ho fr h s w N he
    simp only [evC, J0, reduceCtorEq] at he

def defOf (o : Option Oper) : Option Operand := match o with
  | some o => (match o.op, o.guard, o.dst with
    | .defer c, none, none => (match c.callee, c.args.toList with | .value x, [] => some x | _, _ => none)
    | _, _, _ => none)
  | none => none
def onFn (v : V) (k : Nat → List V → List V → Ans) : Ans := match v with | .fn g a b => k g a b | _ => none
def dfr (env : Env) (pl : Nat → Bool) (g : Nat) (vs : List V) (h : H) (k : H → Ans) : Ans := bif pl g then bnd2 (env g vs h) fun _ h => k h else none
/-- behind the deferred call's place -/
def kDef (P : Program) (env : Env) (pl : Nat → Bool) (rs : List ResultVar) (g : Nat) (vs : List V) : K := fun e fr h => match e with
  | .exit _ => none
  | _ => bif pl g then bnd2 (env g vs h) fun _ h => resK P fr h rs [] (retV h) else none
def evD (P : Program) (env : Env) (pl : Nat → Bool) (rs : List ResultVar) (ar : An) : List An → Code → Fr → H → Ans
  | [], .seq (.region _ ops false) y, fr, h => (match defOf ops[ops.size - 1]? with
    | some x => evOps P env ops (List.range (ops.size - 1)) fr h fun fr h => (match evO fr x with
      | .fn g first caps => evC P env J0 ar y fr h (kDef P env pl rs g (first ++ caps))
      | _ => none)
    | none => none)
  | a :: as, .seq x y, fr, h => evC P env J0 a x fr h fun e fr h => (match e with
    | .normal => evD P env pl rs ar as y fr h
    | .ret => resK P fr h rs [] (retV h)
    | .exit _ => none)
  | _, _, _, _ => none
def okD (n : Nat) (rk : Array Oper → List It → Bool) (ar : An) : List An → Code → Bool
  | [], .seq (.region _ ops false) y => dstOk n ops && codeOk n rk ar y
  | a :: as, .seq x y => codeOk n rk a x && okD n rk ar as y
  | _, _ => false

/-- deferred calls of plain functions -/
def EnvD (P : Program) (env : Env) (pl : Nat → Bool) : Prop := ∀ g args h v h', pl g = true → env g args h = some (v, h') → (∃ fn, P.funcs[g]? = some fn ∧ fn.name ≠ "runtime.NumGoroutine" ∧ fn.body.isSome) ∧
  ∀ M w args', St P M h w → UVs P M args args' → ∀ u, CallsD P g args'.toArray u w fun e u' w' => u' = u ∧ ∃ v', e = .returned v' ∧ OpR P M h w v h' v' w'

theorem fn_sndD {env : Env} (E : EnvS P env) (L : Lay P) {rk : Nat → Array Oper → List It → Bool} (hrk : ∀ n env ops l, EnvS P env → dstOk n ops = true → rk n ops l = true → RegS P env n ops l) {g : Nat} {an : An} (hok : fnOk P rk g an = true) {fuel : Nat} {args : List V} {h : H} {v : V} {h' : H}
    (he : evF P env (evJ P env g an fuel) g an args h = some (v, h')) : (∃ fn, P.funcs[g]? = some fn ∧ fn.name ≠ "runtime.NumGoroutine" ∧ fn.body.isSome) ∧
    ∀ M w args', St P M h w → UVs P M args args' → ∀ u, CallsD P g args'.toArray u w fun e u' w' => u' = u ∧ ∃ v', e = .returned v' ∧ OpR P M h w v h' v' w' := by
  obtain ⟨fn, c, h1, h2, h3, h4⟩ := fn_wp E L hrk hok he
  exact ⟨⟨fn, h1, h3, by rw [h2]; rfl⟩, fun M w args' S U u => callsD_of_wp h1 h2 (h4 M w args' S U)⟩

theorem UVs.mono {M M' : Inj} (hle : M.le M') : ∀ {vs : List V} {vs' : List Value}, UVs P M vs vs' → UVs P M' vs vs'
  | [], _, h => h
  | _ :: _, _, ⟨v', c', e, h1, h2⟩ => ⟨v', c', e, h1.mono hle, UVs.mono hle h2⟩

theorem evOps_snd2 {env : Env} (E : EnvS P env) (L : Lay P) {n : Nat} {D : List Deferred} {M0 : Inj} {h0 : H} {w0 : World} {ops : Array Oper} (hok : dstOk n ops = true) {k : Fr → H → Ans} {r : V × H} {Q : Exit → Act → World → Prop} {l2 : List Nat}
    (hk : ∀ fr1 h1 a1 w1, k fr1 h1 = some r → Now P n D M0 h0 w0 fr1 h1 a1 w1 → wpOps P ops Q l2 a1 w1) :
    ∀ {l : List Nat} {fr : Fr} {h : H} {a : Act} {w : World}, Now P n D M0 h0 w0 fr h a w → evOps P env ops l fr h k = some r → wpOps P ops Q (l ++ l2) a w
  | [], fr, h, a, w, N, he => hk _ _ _ _ he N
  | i :: l, fr, h, a, w, N, he => by
    rw [List.cons_append, wpOps_cons]
    exact evOper_snd E L N hok he fun fr1 h1 a1 w1 h2 N1 => evOps_snd2 E L hok hk N1 h2

theorem evD_snd {env : Env} {pl : Nat → Bool} (E : EnvS P env) (ED : EnvD P env pl) (L : Lay P) {fn : Func} {rk : Array Oper → List It → Bool} (hrk : ∀ ops l, dstOk fn.ntmps ops = true → rk ops l = true → RegS P env fn.ntmps ops l) {M0 : Inj} {h0 : H} {w0 : World} {r : V × H} {ar : An} :
    ∀ (as : List An) {c : Code} {fr : Fr} {h : H} {a : Act} {w : World}, okD fn.ntmps rk ar as c = true → Now P fn.ntmps [] M0 h0 w0 fr h a w → evD P env pl fn.results.toList ar as c fr h = some r →
    c.wp P (bodyPostD P fn fun e w' => ∃ v', e = .returned v' ∧ OpR P M0 h0 w0 r.1 r.2 v' w') a w
  | a0 :: as, c, fr, h, a, w, ok, N, he => by
    cases c <;> simp only [evD, reduceCtorEq] at he
    rename_i x y
    simp only [okD, Bool.and_eq_true] at ok
    refine wp_seq (evC_snd0 E L hrk (D := []) (M0 := M0) (h0 := h0) (w0 := w0) (r := r) a0 (Q := Exit.then _ _) (fun l a w hh => by simp only [Exit.then, bodyPostD] at hh) ?_ ok.1 N he)
    intro e fr1 h1 a1 w1 g1 N1
    cases e with
    | normal => exact evD_snd E ED L hrk as ok.2 N1 g1
    | exit i => cases g1
    | ret =>
      simp only [Ex.to, Exit.then, bodyPostD]
      obtain ⟨M1, S1, X1, F1⟩ := N1.ex
      obtain ⟨v', q1, q2, q3⟩ := fin_snd L S1 F1 (r := r) g1
      rw [F1.df]
      refine ⟨v', q1, v', rfl, M1, ?_, ?_, q2⟩
      · rw [q3]; exact S1
      · rw [q3]; exact X1
  | [], c, fr, h, a, w, ok, N, he => by
    cases c with
    | seq x y =>
      cases x with
      | region id ops dr =>
        cases dr with
        | true => simp only [evD, reduceCtorEq] at he
        | false =>
          simp only [evD] at he
          simp only [okD, Bool.and_eq_true] at ok
          cases hdo : defOf ops[ops.size - 1]? with
          | none => rw [hdo] at he; cases he
          | some x =>
          rw [hdo] at he
          simp only at he
          have hex : ∃ o cc, ops[ops.size - 1]? = some o ∧ o.op = .defer cc ∧ o.guard = none ∧ o.dst = none ∧ cc.callee = .value x ∧ cc.args = #[] := by
            unfold defOf at hdo
            split at hdo <;> try contradiction
            rename_i o ho
            split at hdo <;> try contradiction
            rename_i cc h1 h2 h3
            split at hdo <;> try contradiction
            rename_i xx h4 h5
            injection hdo with hdo; subst hdo
            exact ⟨o, cc, ho, h1, h2, h3, h4, Array.toList_eq_nil_iff.1 h5⟩
          obtain ⟨o, cc, ho, e1, e2, e3, e4, e5⟩ := hex
          have hsz : ops.size - 1 < ops.size := (Array.getElem?_eq_some_iff.1 ho).1
          refine wp_seq (wp_region ?_)
          have hrange : List.range ops.size = List.range (ops.size - 1) ++ [ops.size - 1] := by
            rw [← List.range_succ]; congr 1; omega
          rw [hrange]
          refine evOps_snd2 E L ok.1 ?_ N he
          intro fr1 h1 a1 w1 g1 N1
          obtain ⟨M1, S1, X1, F1⟩ := N1.ex
          split at g1 <;> try contradiction
          rename_i g first caps hv
          have hvu := evO_VU F1.fit x
          rw [hv] at hvu
          have hvr := hvu.known (by simp)
          simp only [VR, R] at hvr
          obtain ⟨a', b', ee, u1, u2⟩ := hvr
          injection ee with ee
          let d : Deferred := { target := .fn (.func g) b'.toArray, args := a'.toArray ++ #[] }
          have hrun : (execOp a1.eval o).run P w1 = .ok (.defer d) w1 := by
            simp only [execOp, e1, resolve, e4, e5, ee, Deferred.ofValue, Sem.run_bind, Sem.run_pure, Result.andThen_ok, List.map_toArray, List.map_nil]
            simp [d]
          have hw : Region.wanted o (yielded ops a1.tmps) = true := by simp [Region.wanted, e2]
          rw [wpOps_cons]
          unfold wpOp
          rw [ho]
          simp only [hw, if_true]
          left
          unfold Oper.wp
          rw [hrun, Oper.upon_defer, e3]
          simp only [Act.put, wpOps, Exit.then]
          have hdf : a1.defers = [] := F1.df
          rw [hdf]
          have N2 : Now P fn.ntmps [d] M1 h1 w1 fr1 h1 { a1 with defers := [d] } w1 := ⟨M1, S1, Ext.refl _ _ _, F1.fit, F1.sz, rfl⟩
          refine evC_snd0 E L hrk (D := [d]) (M0 := M1) (h0 := h1) (w0 := w1) (r := r) ar (fun l a w hh => by simp only [bodyPostD] at hh) ?_ ok.2 N2 g1
          intro e fr2 h2 a2 w2 g2 N2
          have key : (bif pl g then bnd2 (env g (first ++ caps) h2) fun _ h => resK P fr2 h fn.results.toList [] (retV h) else none) = some r → Leaves P fn a2.tmps (fun e w' => ∃ v', e = .returned v' ∧ OpR P M0 h0 w0 r.1 r.2 v' w') a2.defers .returning w2 := by
            intro g2
            obtain ⟨hpl, g2⟩ := cond_some g2
            obtain ⟨M2, S2, X2, F2⟩ := N2.ex
            obtain ⟨v3, h3, g3, g4⟩ := bnd2_some g2
            rw [F2.df]
            obtain ⟨⟨fn2, p1, p2, p3⟩, hc⟩ := ED _ _ _ _ _ hpl g3
            have U3 : UVs P M2 (first ++ caps) (a' ++ b') := UVs.app (UVs.mono X2.le u1.UVs) (UVs.mono X2.le u2.UVs)
            refine leaves_cons (by simp) (f := g) (args := (a' ++ b').toArray) ?_ (CallsD.mono (hc M2 w2 (a' ++ b') S2 U3 .returning) ?_)
            · simp only [invoke, callFunc_run p1 p2 p3]
              congr 2
              apply Array.ext'
              simp
            · rintro e u' w' ⟨rfl, v', rfl, M4, S4, X4, hv4⟩
              show Leaves P fn a2.tmps _ [] (settle .returning) w'
              have F4 := F2.mono X4.le
              obtain ⟨v5, q1, q2, q3⟩ := fin_snd L S4 F4 (r := r) g4
              refine ⟨v5, q1, v5, rfl, M4, ?_, ?_, q2⟩
              · rw [q3]; exact S4
              · rw [q3]; exact X1.trans (X2.trans X4)
          cases e with
          | exit i => cases g2
          | normal => exact key g2
          | ret => exact key g2
      | _ => simp only [evD, reduceCtorEq] at he
    | _ => simp only [evD, reduceCtorEq] at he
end Go.AM

namespace Go.AM
open Go
variable {P : Program}

/-! what a run asks of its callees -/
abbrev Sp := List (Nat × List V × H × (V × H))
def Sp.ok (S : Sp) (env : Env) : Prop := ∀ s ∈ S, env s.1 s.2.1 s.2.2.1 = some s.2.2.2
theorem Sp.ok_nil (env : Env) : Sp.ok [] env := fun _ h => by cases h
theorem Sp.ok_app {S T : Sp} {env : Env} : Sp.ok (S ++ T) env ↔ Sp.ok S env ∧ Sp.ok T env := by
  constructor
  · intro h; exact ⟨fun s hs => h s (List.mem_append_left _ hs), fun s hs => h s (List.mem_append_right _ hs)⟩
  · rintro ⟨h1, h2⟩ s hs
    rcases List.mem_append.1 hs with hs | hs
    · exact h1 s hs
    · exact h2 s hs

theorem evOp_sup {env : Env} {op : Op} {fr : Fr} {h : H} {v : V} {h1 : H} (he : ∀ k2, evOp P env op fr h k2 = k2 v h1) : ∃ S, Sp.ok S env ∧ ∀ env', Sp.ok S env' → ∀ k2, evOp P env' op fr h k2 = k2 v h1 := by
  by_cases hc : ∃ c f, op = .call c ∧ c.callee = .value f
  · obtain ⟨c, f, rfl, hc⟩ := hc
    have hv := he fun v h => some (v, h)
    simp only [evOp, evCall, hc] at hv ⊢
    obtain ⟨v0, h0, q1, q2⟩ := bnd2_some hv
    simp only [Option.some.injEq, Prod.mk.injEq] at q2
    obtain ⟨rfl, rfl⟩ := q2
    unfold callV at q1
    split at q1 <;> try contradiction
    rename_i g first caps hf
    refine ⟨[(g, first ++ (c.args.toList.map (evO fr) ++ caps), h, (v0, h0))], fun s hs => ?_, fun env' ok k2 => ?_⟩
    · rw [List.mem_singleton] at hs; subst hs; exact q1
    · have := ok _ (List.mem_singleton.2 rfl)
      simp only at this
      simp only [callV, hf, this, bnd2]
  · refine ⟨[], Sp.ok_nil _, fun env' _ k2 => ?_⟩
    rw [← he k2]
    cases op
    case call c =>
      simp only [evOp, evCall]
      cases h2 : c.callee with
      | value f => exact absurd ⟨c, f, rfl, h2⟩ hc
      | invoke x m => rfl
      | builtin b => rfl
    case makeMap t c => cases c <;> rfl
    all_goals rfl

theorem evOper_sup {env : Env} {ops : Array Oper} {i : Nat} {fr : Fr} {h : H} {k : Fr → H → Ans} {r : V × H} (he : evOper P env ops i fr h k = some r) :
    ∃ fr1 h1 S, k fr1 h1 = some r ∧ Sp.ok S env ∧ ∀ env', Sp.ok S env' → ∀ k2, evOper P env' ops i fr h k2 = k2 fr1 h1 := by
  obtain ⟨o, v, h1, ho, hk, hc⟩ := evOper_inv he
  rcases hc with ⟨hR, hr⟩ | ⟨hS, rfl, rfl⟩
  · obtain ⟨S, s1, s2⟩ := evOp_sup hr
    refine ⟨putD o fr v, h1, S, hk, s1, fun env' ok k2 => ?_⟩
    unfold evOper
    rw [ho]
    simp only
    unfold Runs at hR
    cases hg : o.guard with
    | none => simp only; exact s2 env' ok _
    | some jw =>
      obtain ⟨j, w⟩ := jw
      rw [hg] at hR
      simp only at hR ⊢
      rw [hR]
      simp only [gd, beq_self_eq_true, cond_true]
      rw [s2 env' ok]; rfl
  · refine ⟨putD o fr .undef, h1, [], hk, Sp.ok_nil _, fun env' _ k2 => ?_⟩
    obtain ⟨j, w, hg, n1, n2⟩ := hS
    unfold evOper
    rw [ho]
    simp only [hg]
    have : ∀ x, gd (gval ops j fr) w x h1 = some (.undef, h1) := by
      intro x
      unfold gd
      split
      · rename_i b hb
        have : (b == w) = false := by
          have : b ≠ w := fun e => n2 (by rw [hb, e])
          simpa using this
        rw [this]; rfl
      · exact absurd ‹_› n1
      · rfl
    rw [this]; rfl

theorem evChk_sup {env : Env} {ops : Array Oper} {i : Nat} {fr : Fr} {h : H} {k : Ans} {r : V × H} (he : evChk P env ops i fr h k = some r) :
    k = some r ∧ ∃ S, Sp.ok S env ∧ ∀ env', Sp.ok S env' → ∀ k2, evChk P env' ops i fr h k2 = k2 := by
  unfold evChk at he ⊢
  cases ho : ops[i]? with
  | none => simp [ho] at he
  | some o =>
    simp only [ho] at he ⊢
    cases hd : o.dst with
    | none => simp [hd] at he
    | some d =>
      simp only [hd] at he ⊢
      have key : evOp P env o.op fr h (fun v _ => chkS v (fr d) k) = some r → k = some r ∧ ∃ S, Sp.ok S env ∧ ∀ env', Sp.ok S env' → ∀ k2, evOp P env' o.op fr h (fun v _ => chkS v (fr d) k2) = k2 := by
        intro he
        obtain ⟨v, h1, h2, h3⟩ := evOp_det he
        unfold chkS at h2
        cases hs : V.same v (fr d) with
        | false => rw [hs] at h2; cases h2
        | true =>
          rw [hs] at h2
          obtain ⟨S, s1, s2⟩ := evOp_sup h3
          exact ⟨h2, S, s1, fun env' ok k2 => by rw [s2 env' ok, chkS, hs]; rfl⟩
      cases hg : o.guard with
      | none => simp only [hg] at he ⊢; exact key he
      | some jw =>
        obtain ⟨j, w⟩ := jw
        simp only [hg] at he ⊢
        cases hv : gval ops j fr <;> rw [hv] at he <;> simp only [gchk] at he ⊢
        case unk => cases he
        case bool b =>
          cases hb : (b == w) <;> rw [hb] at he
          · exact ⟨he, [], Sp.ok_nil _, fun _ _ _ => rfl⟩
          · exact key he
        all_goals exact ⟨he, [], Sp.ok_nil _, by simp⟩

theorem evOps_sup {env : Env} {ops : Array Oper} {r : V × H} : ∀ {l : List Nat} {fr : Fr} {h : H} {k : Fr → H → Ans}, evOps P env ops l fr h k = some r →
    ∃ fr1 h1 S, k fr1 h1 = some r ∧ Sp.ok S env ∧ ∀ env', Sp.ok S env' → ∀ k2, evOps P env' ops l fr h k2 = k2 fr1 h1
  | [], fr, h, k, he => ⟨fr, h, [], he, Sp.ok_nil _, fun _ _ _ => rfl⟩
  | i :: l, fr, h, k, he => by
    simp only [evOps] at he ⊢
    obtain ⟨fr1, h1, S, q1, q2, q3⟩ := evOper_sup he
    obtain ⟨fr2, h2, S2, p1, p2, p3⟩ := evOps_sup q1
    exact ⟨fr2, h2, S ++ S2, p1, Sp.ok_app.2 ⟨q2, p2⟩, fun env' ok k2 => by rw [q3 env' (Sp.ok_app.1 ok).1, p3 env' (Sp.ok_app.1 ok).2]⟩
theorem evIts_sup {env : Env} {ops : Array Oper} {r : V × H} : ∀ {l : List It} {fr : Fr} {h : H} {k : Fr → H → Ans}, evIts P env ops l fr h k = some r →
    ∃ fr1 h1 S, k fr1 h1 = some r ∧ Sp.ok S env ∧ ∀ env', Sp.ok S env' → ∀ k2, evIts P env' ops l fr h k2 = k2 fr1 h1
  | [], fr, h, k, he => ⟨fr, h, [], he, Sp.ok_nil _, fun _ _ _ => rfl⟩
  | .op i :: l, fr, h, k, he => by
    simp only [evIts] at he ⊢
    obtain ⟨fr1, h1, S, q1, q2, q3⟩ := evOper_sup he
    obtain ⟨fr2, h2, S2, p1, p2, p3⟩ := evIts_sup q1
    exact ⟨fr2, h2, S ++ S2, p1, Sp.ok_app.2 ⟨q2, p2⟩, fun env' ok k2 => by rw [q3 env' (Sp.ok_app.1 ok).1, p3 env' (Sp.ok_app.1 ok).2]⟩
  | .chk i :: l, fr, h, k, he => by
    simp only [evIts] at he ⊢
    obtain ⟨q1, S, q2, q3⟩ := evChk_sup he
    obtain ⟨fr2, h2, S2, p1, p2, p3⟩ := evIts_sup q1
    exact ⟨fr2, h2, S ++ S2, p1, Sp.ok_app.2 ⟨q2, p2⟩, fun env' ok k2 => by rw [q3 env' (Sp.ok_app.1 ok).1, p3 env' (Sp.ok_app.1 ok).2]⟩

/-- where a code's run ends: at its continuation, or at a jump -/
inductive Out where
  | k (e : Ex) (fr : Fr) (h : H)
  | j (id : Nat) (vs : List V) (h : H)
def Out.run (o : Out) (J : JT) (k : K) : Ans := match o with | .k e fr h => k e fr h | .j id vs h => J id vs h

theorem evC_sup {env : Env} {J : JT} {r : V × H} : ∀ (an : An) {c : Code} {fr : Fr} {h : H} {k : K}, evC P env J an c fr h k = some r →
    ∃ o S, Out.run o J k = some r ∧ Sp.ok S env ∧ ∀ env', Sp.ok S env' → ∀ J2 k2, evC P env' J2 an c fr h k2 = Out.run o J2 k2 := by
  intro an
  induction an with
  | leaf =>
    intro c fr h k he
    cases c <;> try (simp only [evC, reduceCtorEq] at he; done)
    case skip => exact ⟨.k .normal fr h, [], he, Sp.ok_nil _, fun _ _ _ _ => rfl⟩
    case label => exact ⟨.k .normal fr h, [], he, Sp.ok_nil _, fun _ _ _ _ => rfl⟩
    case exit id => exact ⟨.k (.exit id) fr h, [], he, Sp.ok_nil _, fun _ _ _ _ => rfl⟩
    case ret => exact ⟨.k .ret fr h, [], he, Sp.ok_nil _, fun _ _ _ _ => rfl⟩
    case region id ops dr =>
      cases dr with
      | true => simp only [evC, reduceCtorEq] at he
      | false =>
        simp only [evC] at he ⊢
        obtain ⟨fr1, h1, S, q1, q2, q3⟩ := evOps_sup he
        exact ⟨.k .normal fr1 h1, S, q1, q2, fun env' ok _ k2 => q3 env' ok _⟩
  | reg l =>
    intro c fr h k he
    cases c <;> try (simp only [evC, reduceCtorEq] at he; done)
    case region id ops dr =>
      simp only [evC] at he ⊢
      obtain ⟨fr1, h1, S, q1, q2, q3⟩ := evIts_sup he
      exact ⟨.k .normal fr1 h1, S, q1, q2, fun env' ok _ k2 => q3 env' ok _⟩
  | n1 a iha =>
    intro c fr h k he
    cases c <;> try (simp only [evC, reduceCtorEq] at he; done)
    case block id x =>
      simp only [evC] at he ⊢
      obtain ⟨o, S, q1, q2, q3⟩ := iha he
      cases o with
      | j id2 vs h2 => exact ⟨.j id2 vs h2, S, q1, q2, fun env' ok J2 k2 => q3 env' ok J2 _⟩
      | k e fr1 h1 =>
        simp only [Out.run] at q1 q3
        cases e with
        | normal => exact ⟨.k .normal fr1 h1, S, q1, q2, fun env' ok J2 k2 => q3 env' ok J2 _⟩
        | ret => exact ⟨.k .ret fr1 h1, S, q1, q2, fun env' ok J2 k2 => q3 env' ok J2 _⟩
        | exit i =>
          simp only [kBlock] at q1 q3
          cases hb : Nat.beq i id <;> simp only [hb, cond_true, cond_false] at q1 q3
          · exact ⟨.k (.exit i) fr1 h1, S, q1, q2, fun env' ok J2 k2 => by rw [q3 env' ok J2 _]; rw [kBlock]; simp only [hb, cond_false]; rfl⟩
          · exact ⟨.k .normal fr1 h1, S, q1, q2, fun env' ok J2 k2 => by rw [q3 env' ok J2 _]; rw [kBlock]; simp only [hb, cond_true]; rfl⟩
    case scope x =>
      simp only [evC] at he ⊢
      exact iha he
  | n2 a b iha ihb =>
    intro c fr h k he
    cases c <;> try (simp only [evC, reduceCtorEq] at he; done)
    case seq x y =>
      simp only [evC] at he ⊢
      obtain ⟨o, S, q1, q2, q3⟩ := iha he
      cases o with
      | j id2 vs h2 => exact ⟨.j id2 vs h2, S, q1, q2, fun env' ok J2 k2 => q3 env' ok J2 _⟩
      | k e fr1 h1 =>
        simp only [Out.run] at q1 q3
        cases e with
        | ret => exact ⟨.k .ret fr1 h1, S, q1, q2, fun env' ok J2 k2 => q3 env' ok J2 _⟩
        | exit i => exact ⟨.k (.exit i) fr1 h1, S, q1, q2, fun env' ok J2 k2 => q3 env' ok J2 _⟩
        | normal =>
          simp only [kSeq] at q1 q3
          obtain ⟨o2, S2, p1, p2, p3⟩ := ihb q1
          exact ⟨o2, S ++ S2, p1, Sp.ok_app.2 ⟨q2, p2⟩, fun env' ok J2 k2 => by rw [q3 env' (Sp.ok_app.1 ok).1 J2]; exact p3 env' (Sp.ok_app.1 ok).2 J2 k2⟩
    case cond c0 x y =>
      simp only [evC] at he ⊢
      cases hv : evO fr c0 <;> rw [hv] at he <;> simp only [cnd, reduceCtorEq] at he ⊢
      rename_i t
      cases t with
      | true => exact iha he
      | false => exact ihb he
  | loop id live a iha =>
    intro c fr h k he
    cases c <;> try (simp only [evC, reduceCtorEq] at he; done)
    exact ⟨.j id (live.map fr) h, [], he, Sp.ok_nil _, fun _ _ _ _ => rfl⟩
  | join id live a iha =>
    intro c fr h k he
    exact ⟨.j id (live.map fr) h, [], he, Sp.ok_nil _, fun _ _ _ _ => rfl⟩

theorem kOf_sup {env : Env} {J : JT} {kf : K} {r : V × H} : ∀ (κ : Cx) {e : Ex} {fr : Fr} {h : H}, kOf P env J kf κ e fr h = some r →
    ∃ S T, Sp.ok S env ∧ Sp.ok T J ∧ ∀ env' J', Sp.ok S env' → Sp.ok T J' → kOf P env' J' kf κ e fr h = some r := by
  intro κ
  induction κ with
  | fin => intro e fr h he; exact ⟨[], [], Sp.ok_nil _, Sp.ok_nil _, fun _ _ _ _ => he⟩
  | seq a c κ ih =>
    intro e fr h he
    cases e with
    | normal =>
      simp only [kOf, kSeq] at he ⊢
      obtain ⟨o, S, q1, q2, q3⟩ := evC_sup a he
      cases o with
      | j id vs h2 =>
        refine ⟨S, [(id, vs, h2, r)], q2, fun s hs => ?_, fun env' J' ok okJ => ?_⟩
        · rw [List.mem_singleton] at hs; subst hs; exact q1
        · rw [q3 env' ok]; exact okJ _ (List.mem_singleton.2 rfl)
      | k e fr1 h1 =>
        obtain ⟨S2, T, p1, p2, p3⟩ := ih q1
        exact ⟨S ++ S2, T, Sp.ok_app.2 ⟨q2, p1⟩, p2, fun env' J' ok okJ => by rw [q3 env' (Sp.ok_app.1 ok).1]; exact p3 env' J' (Sp.ok_app.1 ok).2 okJ⟩
    | ret => simp only [kOf, kSeq] at he ⊢; exact ih he
    | exit i => simp only [kOf, kSeq] at he ⊢; exact ih he
  | blk id κ ih =>
    intro e fr h he
    cases e with
    | normal => simp only [kOf, kBlock] at he ⊢; exact ih he
    | ret => simp only [kOf, kBlock] at he ⊢; exact ih he
    | exit i =>
      simp only [kOf, kBlock] at he ⊢
      cases hb : Nat.beq i id <;> simp only [hb, cond_true, cond_false] at he ⊢ <;> exact ih he
  | lp id live a c κ ih =>
    intro e fr h he
    cases e with
    | normal =>
      simp only [kOf, kLoop] at he ⊢
      refine ⟨[], [(id, live.map fr, h, r)], Sp.ok_nil _, fun s hs => ?_, fun env' J' ok okJ => okJ _ (List.mem_singleton.2 rfl)⟩
      rw [List.mem_singleton] at hs; subst hs; exact he
    | ret => simp only [kOf, kLoop] at he ⊢; exact ih he
    | exit i => simp only [kOf, kLoop] at he ⊢; exact ih he

theorem evCk_sup {env : Env} {J : JT} {kf : K} {κ : Cx} {an : An} {c : Code} {fr : Fr} {h : H} {r : V × H} (he : evC P env J an c fr h (kOf P env J kf κ) = some r) :
    ∃ S T, Sp.ok S env ∧ Sp.ok T J ∧ ∀ env' J', Sp.ok S env' → Sp.ok T J' → evC P env' J' an c fr h (kOf P env' J' kf κ) = some r := by
  obtain ⟨o, S, q1, q2, q3⟩ := evC_sup an he
  cases o with
  | j id vs h2 =>
    refine ⟨S, [(id, vs, h2, r)], q2, fun s hs => ?_, fun env' J' ok okJ => ?_⟩
    · rw [List.mem_singleton] at hs; subst hs; exact q1
    · rw [q3 env' ok]; exact okJ _ (List.mem_singleton.2 rfl)
  | k e fr1 h1 =>
    obtain ⟨S2, T, p1, p2, p3⟩ := kOf_sup κ q1
    exact ⟨S ++ S2, T, Sp.ok_app.2 ⟨q2, p1⟩, p2, fun env' J' ok okJ => by rw [q3 env' (Sp.ok_app.1 ok).1]; exact p3 env' J' (Sp.ok_app.1 ok).2 okJ⟩
theorem evF_sup {env : Env} {J : JT} {g : Nat} {an : An} {args : List V} {h : H} {r : V × H} (he : evF P env J g an args h = some r) :
    ∃ S T, Sp.ok S env ∧ Sp.ok T J ∧ ∀ env' J', Sp.ok S env' → Sp.ok T J' → evF P env' J' g an args h = some r := evCk_sup (κ := .fin) he
theorem evP_sup {env : Env} {J : JT} {g : Nat} {an : An} {id : Nat} {vs : List V} {h : H} {r : V × H} (he : evP P env J g an id vs h = some r) :
    ∃ S T, Sp.ok S env ∧ Sp.ok T J ∧ ∀ env' J', Sp.ok S env' → Sp.ok T J' → evP P env' J' g an id vs h = some r := by
  unfold evP at he ⊢
  cases hp : findP id (pieces an (bodyOf P g) .fin) with
  | none => simp [hp] at he
  | some p => simp only [hp] at he ⊢; exact evCk_sup he

/-! the program's machine, any depth -/
def Le (e e' : Env) : Prop := ∀ g a h r, e g a h = some r → e' g a h = some r
theorem Le.refl (e : Env) : Le e e := fun _ _ _ _ h => h
theorem Le.trans {a b c : Env} (h : Le a b) (k : Le b c) : Le a c := fun _ _ _ _ q => k _ _ _ _ (h _ _ _ _ q)
theorem Le.ok {S : Sp} {e e' : Env} (h : Le e e') (k : S.ok e) : S.ok e' := fun s hs => h _ _ _ _ (k s hs)

/-- how a function is run -/
inductive Fa where
  | plain (an : An)
  | dfr (as : List An) (ar : An)
  | spec (f : List V → H → Ans)
def plainF (tb : Nat → Option Fa) (g : Nat) : Bool := match tb g with | some (.plain _) => true | _ => false
def EN (P : Program) (tb : Nat → Option Fa) : Nat → Env
  | 0 => fun _ _ _ => none
  | n + 1 => fun g args h => match tb g with
    | some (.plain an) => evF P (EN P tb n) (evJ P (EN P tb n) g an n) g an args h
    | some (.dfr as ar) => evD P (EN P tb n) (plainF tb) (ressOf P g) ar as (bodyOf P g) (initFr args) h
    | some (.spec f) => f args h
    | none => none

theorem evD_sup {env : Env} {pl : Nat → Bool} {rs : List ResultVar} {ar : An} {r : V × H} : ∀ {as : List An} {c : Code} {fr : Fr} {h : H}, evD P env pl rs ar as c fr h = some r →
    ∃ S, Sp.ok S env ∧ ∀ env', Sp.ok S env' → evD P env' pl rs ar as c fr h = some r
  | a :: as, c, fr, h, he => by
    cases c <;> simp only [evD, reduceCtorEq] at he
    rename_i x y
    obtain ⟨o, S, q1, q2, q3⟩ := evC_sup a he
    cases o with
    | j id vs h2 => simp [Out.run, J0] at q1
    | k e fr1 h1 =>
      simp only [Out.run] at q1 q3
      cases e with
      | exit i => cases q1
      | ret => exact ⟨S, q2, fun env' ok => by simp only [evD]; rw [q3 env' ok]; exact q1⟩
      | normal =>
        obtain ⟨S2, p1, p2⟩ := evD_sup q1
        exact ⟨S ++ S2, Sp.ok_app.2 ⟨q2, p1⟩, fun env' ok => by simp only [evD]; rw [q3 env' (Sp.ok_app.1 ok).1]; exact p2 env' (Sp.ok_app.1 ok).2⟩
  | [], c, fr, h, he => by
    cases c with
    | seq x y =>
      cases x with
      | region id ops dr =>
        cases dr with
        | true => simp only [evD, reduceCtorEq] at he
        | false =>
          simp only [evD] at he ⊢
          cases hdo : defOf ops[ops.size - 1]? with
          | none => rw [hdo] at he; cases he
          | some x =>
            rw [hdo] at he
            simp only at he ⊢
            obtain ⟨fr1, h1, S, q1, q2, q3⟩ := evOps_sup he
            cases hv : evO fr1 x <;> rw [hv] at q1 <;> simp only [reduceCtorEq] at q1
            rename_i g first caps
            obtain ⟨o, S2, p1, p2, p3⟩ := evC_sup ar q1
            cases o with
            | j id vs h2 => simp [Out.run, J0] at p1
            | k e fr2 h2 =>
              simp only [Out.run] at p1 p3
              have key : (bif pl g then bnd2 (env g (first ++ caps) h2) fun _ h => resK P fr2 h rs [] (retV h) else none) = some r → ∃ T, Sp.ok T env ∧ ∀ env', Sp.ok T env' → (bif pl g then bnd2 (env' g (first ++ caps) h2) fun _ h => resK P fr2 h rs [] (retV h) else none) = some r := by
                intro g2
                obtain ⟨hpl, g2⟩ := cond_some g2
                obtain ⟨v3, h3, g3, g4⟩ := bnd2_some g2
                refine ⟨[(g, first ++ caps, h2, (v3, h3))], fun s hs => ?_, fun env' ok => ?_⟩
                · rw [List.mem_singleton] at hs; subst hs; exact g3
                · have := ok _ (List.mem_singleton.2 rfl)
                  simp only at this
                  rw [hpl, this]; exact g4
              have fin : ∀ T, Sp.ok T env → (∀ env', Sp.ok T env' → kDef P env' pl rs g (first ++ caps) e fr2 h2 = some r) → ∃ S, Sp.ok S env ∧ ∀ env', Sp.ok S env' → (evOps P env' ops (List.range (ops.size - 1)) fr h fun fr h => (match evO fr x with
                  | .fn g first caps => evC P env' J0 ar y fr h (kDef P env' pl rs g (first ++ caps))
                  | _ => none)) = some r := by
                intro T t1 t2
                refine ⟨S ++ (S2 ++ T), Sp.ok_app.2 ⟨q2, Sp.ok_app.2 ⟨p2, t1⟩⟩, fun env' ok => ?_⟩
                rw [q3 env' (Sp.ok_app.1 ok).1, hv]
                simp only
                rw [p3 env' (Sp.ok_app.1 (Sp.ok_app.1 ok).2).1]
                exact t2 env' (Sp.ok_app.1 (Sp.ok_app.1 ok).2).2
              cases e with
              | exit i => cases p1
              | normal => obtain ⟨T, t1, t2⟩ := key p1; exact fin T t1 t2
              | ret => obtain ⟨T, t1, t2⟩ := key p1; exact fin T t1 t2
      | _ => simp only [evD, reduceCtorEq] at he
    | _ => simp only [evD, reduceCtorEq] at he

theorem evJ_le {env env' : Env} (hle : Le env env') {g : Nat} {an : An} : ∀ {n n' : Nat}, n ≤ n' → Le (evJ P env g an n) (evJ P env' g an n')
  | 0, _, _ => fun _ _ _ _ h => by cases h
  | n + 1, 0, h => by omega
  | n + 1, n' + 1, hn => fun id vs h r he => by
    simp only [evJ] at he ⊢
    obtain ⟨S, T, q1, q2, q3⟩ := evP_sup he
    exact q3 _ _ (hle.ok q1) ((evJ_le hle (by omega)).ok q2)

variable {tb : Nat → Option Fa}
theorem EN_step : ∀ n, Le (EN P tb n) (EN P tb (n + 1))
  | 0 => fun _ _ _ _ h => by cases h
  | n + 1 => fun g a h r he => by
    rw [EN] at he ⊢
    cases ht : tb g with
    | none => simp [ht] at he
    | some fa =>
      cases fa with
      | plain an =>
        simp only [ht] at he ⊢
        obtain ⟨S, T, q1, q2, q3⟩ := evF_sup he
        exact q3 _ _ ((EN_step n).ok q1) ((evJ_le (EN_step n) (by omega)).ok q2)
      | dfr as ar =>
        simp only [ht] at he ⊢
        obtain ⟨S, q1, q3⟩ := evD_sup he
        exact q3 _ ((EN_step n).ok q1)
      | spec f => simp only [ht] at he ⊢; exact he
theorem EN_le : ∀ {m n : Nat}, n ≤ m → Le (EN P tb n) (EN P tb m)
  | 0, n, h => by have : n = 0 := by omega
                  subst this; exact Le.refl _
  | m + 1, n, h => by
    rcases Nat.lt_or_ge n (m + 1) with h1 | h1
    · exact (EN_le (by omega)).trans (EN_step m)
    · have : n = m + 1 := by omega
      subst this; exact Le.refl _

/-- the least machine above a rising row of machines -/
noncomputable def sup (f : Nat → Env) : Env := fun g a h => open Classical in if H : ∃ r, ∃ n, f n g a h = some r then some H.choose else none
theorem sup_iff {f : Nat → Env} (hf : ∀ m n, n ≤ m → Le (f n) (f m)) {g : Nat} {a : List V} {h : H} {r : V × H} : sup f g a h = some r ↔ ∃ n, f n g a h = some r := by
  unfold sup
  constructor
  · intro he
    split at he
    · rename_i H
      injection he with he
      subst he
      exact H.choose_spec
    · cases he
  · rintro ⟨n, hn⟩
    have H : ∃ r, ∃ n, f n g a h = some r := ⟨r, n, hn⟩
    rw [dif_pos H]
    obtain ⟨m, hm⟩ := H.choose_spec
    have h1 := hf (max m n) n (by omega) _ _ _ _ hn
    have h2 := hf (max m n) m (by omega) _ _ _ _ hm
    rw [h1] at h2
    exact h2.symm
theorem sup_le {f : Nat → Env} (hf : ∀ m n, n ≤ m → Le (f n) (f m)) (n : Nat) : Le (f n) (sup f) := fun _ _ _ _ h => (sup_iff hf).2 ⟨n, h⟩
theorem sup_ok {f : Nat → Env} (hf : ∀ m n, n ≤ m → Le (f n) (f m)) : ∀ {S : Sp}, S.ok (sup f) → ∃ N, ∀ n, N ≤ n → S.ok (f n)
  | [], _ => ⟨0, fun _ _ => Sp.ok_nil _⟩
  | s :: S, h => by
    obtain ⟨N, hN⟩ := sup_ok hf (S := S) fun t ht => h t (List.mem_cons_of_mem _ ht)
    obtain ⟨n, hn⟩ := (sup_iff hf).1 (h s (List.mem_cons_self ..))
    refine ⟨max N n, fun m hm t ht => ?_⟩
    rcases List.mem_cons.1 ht with rfl | ht
    · exact hf m n (by omega) _ _ _ _ hn
    · exact hN m (by omega) t ht

noncomputable def Ei (P : Program) (tb : Nat → Option Fa) : Env := sup (EN P tb)
noncomputable def Ji (P : Program) (tb : Nat → Option Fa) (g : Nat) (an : An) : JT := sup fun n => evJ P (EN P tb n) g an n
theorem EN_up : ∀ m n, n ≤ m → Le (EN P tb n) (EN P tb m) := fun _ _ h => EN_le h
theorem evJ_up {g : Nat} {an : An} : ∀ m n, n ≤ m → Le (evJ P (EN P tb n) g an n) (evJ P (EN P tb m) g an m) := fun _ _ h => evJ_le (EN_le h) h
theorem Ei_of {n g : Nat} {a : List V} {h : H} {r : V × H} (he : EN P tb n g a h = some r) : Ei P tb g a h = some r := sup_le EN_up n _ _ _ _ he

theorem ans_ext {x y : Ans} (h : ∀ r, x = some r ↔ y = some r) : x = y := by
  cases x with
  | none => cases y with
    | none => rfl
    | some r => have := (h r).2 rfl; cases this
  | some r => exact ((h r).1 rfl).symm

/-- **a function's equation** -/
theorem Ei_eq {g : Nat} {an : An} (ht : tb g = some (.plain an)) (args : List V) (h : H) : Ei P tb g args h = evF P (Ei P tb) (Ji P tb g an) g an args h := by
  refine ans_ext fun r => ⟨fun he => ?_, fun he => ?_⟩
  · obtain ⟨n, hn⟩ := (sup_iff EN_up).1 he
    cases n with
    | zero => cases hn
    | succ n =>
      simp only [EN, ht] at hn
      obtain ⟨S, T, q1, q2, q3⟩ := evF_sup hn
      exact q3 _ _ ((sup_le EN_up n).ok q1) ((sup_le evJ_up n).ok q2)
  · obtain ⟨S, T, q1, q2, q3⟩ := evF_sup he
    obtain ⟨N1, h1⟩ := sup_ok EN_up q1
    obtain ⟨N2, h2⟩ := sup_ok evJ_up q2
    refine (sup_iff EN_up).2 ⟨max N1 N2 + 1, ?_⟩
    simp only [EN, ht]
    exact q3 _ _ (h1 _ (by omega)) (h2 _ (by omega))
theorem Ei_eqS {g : Nat} {f : List V → H → Ans} (ht : tb g = some (.spec f)) (args : List V) (h : H) : Ei P tb g args h = f args h := by
  refine ans_ext fun r => ⟨fun he => ?_, fun he => ?_⟩
  · obtain ⟨n, hn⟩ := (sup_iff EN_up).1 he
    cases n with
    | zero => cases hn
    | succ n => simp only [EN, ht] at hn; exact hn
  · exact (sup_iff EN_up).2 ⟨1, by simp only [EN, ht]; exact he⟩
theorem Ei_eqD {g : Nat} {as : List An} {ar : An} (ht : tb g = some (.dfr as ar)) (args : List V) (h : H) : Ei P tb g args h = evD P (Ei P tb) (plainF tb) (ressOf P g) ar as (bodyOf P g) (initFr args) h := by
  refine ans_ext fun r => ⟨fun he => ?_, fun he => ?_⟩
  · obtain ⟨n, hn⟩ := (sup_iff EN_up).1 he
    cases n with
    | zero => cases hn
    | succ n =>
      simp only [EN, ht] at hn
      obtain ⟨S, q1, q3⟩ := evD_sup hn
      exact q3 _ ((sup_le EN_up n).ok q1)
  · obtain ⟨S, q1, q3⟩ := evD_sup he
    obtain ⟨N1, h1⟩ := sup_ok EN_up q1
    refine (sup_iff EN_up).2 ⟨N1 + 1, ?_⟩
    simp only [EN, ht]
    exact q3 _ (h1 _ (by omega))
/-- **a loop's, or a join's equation** -/
theorem Ji_eq {g : Nat} {an : An} (id : Nat) (vs : List V) (h : H) : Ji P tb g an id vs h = evP P (Ei P tb) (Ji P tb g an) g an id vs h := by
  refine ans_ext fun r => ⟨fun he => ?_, fun he => ?_⟩
  · obtain ⟨n, hn⟩ := (sup_iff evJ_up).1 he
    cases n with
    | zero => cases hn
    | succ n =>
      simp only [evJ] at hn
      obtain ⟨S, T, q1, q2, q3⟩ := evP_sup hn
      refine q3 _ _ ((sup_le EN_up (n + 1)).ok q1) ?_
      exact (sup_le evJ_up (n + 1)).ok ((evJ_le (Le.refl _) (by omega)).ok q2)
  · obtain ⟨S, T, q1, q2, q3⟩ := evP_sup he
    obtain ⟨N1, h1⟩ := sup_ok EN_up q1
    obtain ⟨N2, h2⟩ := sup_ok evJ_up q2
    refine (sup_iff evJ_up).2 ⟨max N1 N2 + 1, ?_⟩
    simp only [evJ]
    exact q3 _ _ (h1 _ (by omega)) ((evJ_le (EN_le (by omega : max N1 N2 ≤ max N1 N2 + 1)) (Nat.le_refl _)).ok (h2 _ (by omega)))

def faOk (P : Program) (rk : Nat → Array Oper → List It → Bool) (g : Nat) : Fa → Bool
  | .plain an => fnOk P rk g an
  | .dfr as ar => match P.funcs[g]? with
    | some fn => fn.body.isSome && fn.name != "runtime.NumGoroutine" && okD fn.ntmps (rk fn.ntmps) ar as (bodyOf P g)
    | none => false
  | .spec _ => false
/-- what a given answer of a function's must keep -/
def SpecOk (P : Program) (g : Nat) (f : List V → H → Ans) : Prop := ∀ args h v h', f args h = some (v, h') → (∃ fn, P.funcs[g]? = some fn ∧ fn.name ≠ "runtime.NumGoroutine" ∧ fn.body.isSome) ∧
  ∀ M w args', St P M h w → UVs P M args args' → Calls P g args'.toArray w fun e w' => ∃ v', e = .returned v' ∧ OpR P M h w v h' v' w'

theorem fnD_snd {env : Env} {pl : Nat → Bool} (E : EnvS P env) (ED : EnvD P env pl) (L : Lay P) {rk : Nat → Array Oper → List It → Bool} (hrk : ∀ n env ops l, EnvS P env → dstOk n ops = true → rk n ops l = true → RegS P env n ops l) {g : Nat} {as : List An} {ar : An} (hok : faOk P rk g (.dfr as ar) = true) {args : List V} {h : H} {v : V} {h' : H}
    (he : evD P env pl (ressOf P g) ar as (bodyOf P g) (initFr args) h = some (v, h')) : (∃ fn, P.funcs[g]? = some fn ∧ fn.name ≠ "runtime.NumGoroutine" ∧ fn.body.isSome) ∧
    ∀ M w args', St P M h w → UVs P M args args' → Calls P g args'.toArray w fun e w' => ∃ v', e = .returned v' ∧ OpR P M h w v h' v' w' := by
  unfold faOk at hok
  cases hfn : P.funcs[g]? with
  | none => simp [hfn] at hok
  | some fn =>
  simp only [hfn, Bool.and_eq_true] at hok
  obtain ⟨⟨hb, hn⟩, hcode⟩ := hok
  refine ⟨⟨fn, rfl, by simpa using hn, hb⟩, fun M w args' S U => ?_⟩
  obtain ⟨c, hc⟩ := Option.isSome_iff_exists.1 hb
  have hbody : bodyOf P g = c := by simp [bodyOf, hfn, hc]
  have hres : ressOf P g = fn.results.toList := by simp [ressOf, hfn]
  refine calls_of_wp_defers hfn hc ?_
  rw [hbody, hres] at he
  rw [hbody] at hcode
  exact evD_snd (r := (v, h')) E ED L (fun ops l q1 q2 => hrk fn.ntmps env ops l E q1 q2) as hcode ⟨M, S, Ext.refl _ _ _, init_fit U _, by simp; omega, rfl⟩ he

theorem EN_snd (L : Lay P) {rk : Nat → Array Oper → List It → Bool} (hrk : ∀ n env ops l, EnvS P env → dstOk n ops = true → rk n ops l = true → RegS P env n ops l) (hok : ∀ g fa, tb g = some fa → (faOk P rk g fa = true ∨ ∃ f, fa = .spec f ∧ SpecOk P g f)) : ∀ n, EnvS P (EN P tb n) ∧ EnvD P (EN P tb n) (plainF tb)
  | 0 => ⟨fun g args h v h' he => (by cases he), fun g args h v h' _ he => (by cases he)⟩
  | n + 1 => by
    obtain ⟨E, ED⟩ := EN_snd L hrk hok n
    constructor
    · intro g args h v h' he
      simp only [EN] at he
      cases ht : tb g with
      | none => rw [ht] at he; cases he
      | some fa =>
        rw [ht] at he
        rcases hok _ _ ht with ho | ⟨f, rfl, ho⟩
        · cases fa with
          | plain an => exact fn_snd E L hrk ho he
          | dfr as ar => exact fnD_snd E ED L hrk ho he
          | spec f => cases ho
        · exact ho args h v h' he
    · intro g args h v h' hp he
      simp only [EN] at he
      unfold plainF at hp
      cases ht : tb g with
      | none => rw [ht] at he; cases he
      | some fa =>
        rw [ht] at he hp
        rcases hok _ _ ht with ho | ⟨f, rfl, ho⟩
        · cases fa with
          | plain an => exact fn_sndD E L hrk ho he
          | dfr as ar => cases hp
          | spec f => cases hp
        · cases hp
theorem Ei_snd (L : Lay P) {rk : Nat → Array Oper → List It → Bool} (hrk : ∀ n env ops l, EnvS P env → dstOk n ops = true → rk n ops l = true → RegS P env n ops l) (hok : ∀ g fa, tb g = some fa → (faOk P rk g fa = true ∨ ∃ f, fa = .spec f ∧ SpecOk P g f)) : EnvS P (Ei P tb) :=
  fun g args h v h' he => by
    obtain ⟨n, hn⟩ := (sup_iff EN_up).1 he
    exact (EN_snd L hrk hok n).1 g args h v h' hn
end Go.AM
