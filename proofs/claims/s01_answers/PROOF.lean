import PyProof.Rows.All
import Wide.All
import OpenK.AllK
import Wide.FinOn
import Open.SpecLaws
import KE.OsGo
import HandS.ForMost
import HandS.ForSpec
import HandS.More
import PySem.Challenge.RW_netmix_s01_answers
set_option Elab.async false
set_option linter.all false
namespace NM
/-! ## linear algebra modulo p over lists -/
/-- the i-th place of a combination -/
def dot (c : List Nat) (ws : List (List Nat)) (i : Nat) : Nat := ((c.zip ws).map fun z => z.1 * z.2.getD i 0).sum
theorem dot_nil (ws : List (List Nat)) (i : Nat) : dot [] ws i = 0 := by simp [dot]
theorem dot_nil2 (c : List Nat) (i : Nat) : dot c [] i = 0 := by simp [dot]
theorem dot_cons (a : Nat) (c : List Nat) (w : List Nat) (ws : List (List Nat)) (i : Nat) : dot (a :: c) (w :: ws) i = a * w.getD i 0 + dot c ws i := by simp [dot]
theorem dot_snoc : ∀ (c : List Nat) (ws : List (List Nat)) (a : Nat) (w : List Nat) (i : Nat), c.length = ws.length → dot (c ++ [a]) (ws ++ [w]) i = dot c ws i + a * w.getD i 0
  | [], [], a, w, i, _ => by simp [dot]
  | [], _ :: _, a, w, i, h => by simp at h
  | _ :: _, [], a, w, i, h => by simp at h
  | b :: c, v :: ws, a, w, i, h => by
    rw [List.cons_append, List.cons_append, dot_cons, dot_cons, dot_snoc c ws a w i (by simpa using h), Nat.add_assoc]
theorem dot_lin (k : Nat) : ∀ (c d : List Nat) (ws : List (List Nat)) (i : Nat), c.length = ws.length → d.length = ws.length →
    dot (List.zipWith (fun a b => a + k * b) c d) ws i = dot c ws i + k * dot d ws i
  | [], [], [], i, _, _ => by simp [dot]
  | [], _ :: _, [], i, _, h => by simp at h
  | _ :: _, _, [], i, h, _ => by simp at h
  | [], _, _ :: _, i, h, _ => by simp at h
  | _ :: _, [], _ :: _, i, _, h => by simp at h
  | a :: c, b :: d, w :: ws, i, h, h' => by
    rw [List.zipWith_cons_cons, dot_cons, dot_cons, dot_cons, dot_lin k c d ws i (by simpa using h) (by simpa using h'), Nat.mul_add, Nat.add_mul, Nat.mul_assoc]
    omega
theorem dot_scale (k : Nat) : ∀ (c : List Nat) (ws : List (List Nat)) (i : Nat), dot (c.map fun x => k * x) ws i = k * dot c ws i
  | [], ws, i => by simp [dot]
  | _ :: _, [], i => by simp [dot]
  | a :: c, w :: ws, i => by
    rw [List.map_cons, dot_cons, dot_cons, dot_scale k c ws i, Nat.mul_add, Nat.mul_assoc]
theorem dot_zero : ∀ (n : Nat) (ws : List (List Nat)) (i : Nat), dot (List.replicate n 0) ws i = 0
  | 0, ws, i => by simp [dot]
  | n + 1, [], i => by simp [dot]
  | n + 1, w :: ws, i => by
    rw [List.replicate_succ, dot_cons, dot_zero n ws i]
    omega
theorem dot_mod (p : Nat) : ∀ (c : List Nat) (ws : List (List Nat)) (i : Nat), dot (c.map (· % p)) ws i % p = dot c ws i % p
  | [], ws, i => by simp [dot]
  | _ :: _, [], i => by simp [dot]
  | a :: c, w :: ws, i => by
    rw [List.map_cons, dot_cons, dot_cons, Nat.add_mod, dot_mod p c ws i, Nat.mul_mod, Nat.mod_mod, ← Nat.mul_mod, ← Nat.add_mod]
/-- v is a combination of ws, modulo p, in the first h places -/
def InSp (p h : Nat) (ws : List (List Nat)) (v : List Nat) : Prop := ∃ c : List Nat, c.length = ws.length ∧ ∀ i, i < h → dot c ws i % p = v.getD i 0 % p
theorem InSp.zero {p h : Nat} {ws : List (List Nat)} {v : List Nat} (hv : ∀ i, i < h → v.getD i 0 % p = 0) : InSp p h ws v :=
  ⟨List.replicate ws.length 0, by simp, fun i hi => by rw [dot_zero, hv i hi, Nat.zero_mod]⟩
theorem InSp.lin {p h k : Nat} {ws : List (List Nat)} {v w u : List Nat} (hv : InSp p h ws v) (hw : InSp p h ws w) (hu : ∀ i, i < h → u.getD i 0 % p = (v.getD i 0 + k * w.getD i 0) % p) : InSp p h ws u := by
  obtain ⟨c, lc, ec⟩ := hv
  obtain ⟨d, ld, ed⟩ := hw
  refine ⟨List.zipWith (fun a b => a + k * b) c d, by simp [lc, ld], fun i hi => ?_⟩
  rw [dot_lin k c d ws i lc ld, hu i hi, Nat.add_mod, ec i hi, Nat.mul_mod, ed i hi, ← Nat.mul_mod, ← Nat.add_mod]
theorem InSp.snoc {p h : Nat} {ws : List (List Nat)} {v w : List Nat} (hv : InSp p h ws v) : InSp p h (ws ++ [w]) v := by
  obtain ⟨c, lc, ec⟩ := hv
  refine ⟨c ++ [0], by simp [lc], fun i hi => ?_⟩
  rw [dot_snoc c ws 0 w i lc, Nat.zero_mul, Nat.add_zero, ec i hi]
theorem InSp.last {p h : Nat} {ws : List (List Nat)} {w : List Nat} : InSp p h (ws ++ [w]) w :=
  ⟨List.replicate ws.length 0 ++ [1], by simp, fun i _ => by rw [dot_snoc _ ws 1 w i (by simp), dot_zero, Nat.zero_add, Nat.one_mul]⟩
theorem InSp.mem {p h : Nat} : ∀ {ws : List (List Nat)} {w : List Nat}, w ∈ ws → InSp p h ws w
  | [], _, h => by simp at h
  | v :: ws, w, hm => by
    rcases List.mem_cons.mp hm with e | hm
    · subst e
      exact ⟨1 :: List.replicate ws.length 0, by simp, fun i _ => by rw [dot_cons, dot_zero, Nat.one_mul, Nat.add_zero]⟩
    · obtain ⟨c, lc, ec⟩ := InSp.mem (p := p) (h := h) hm
      exact ⟨0 :: c, by simp [lc], fun i hi => by rw [dot_cons, Nat.zero_mul, Nat.zero_add, ec i hi]⟩
theorem InSp.congr {p h : Nat} {ws : List (List Nat)} {v u : List Nat} (hv : InSp p h ws v) (e : ∀ i, i < h → u.getD i 0 % p = v.getD i 0 % p) : InSp p h ws u := by
  obtain ⟨c, lc, ec⟩ := hv
  exact ⟨c, lc, fun i hi => by rw [ec i hi, e i hi]⟩
/-- a vector made of a combination -/
theorem insp_of_dot {p h : Nat} {us : List (List Nat)} : ∀ {ws : List (List Nat)} {c : List Nat} {v : List Nat}, c.length = ws.length → (∀ w ∈ ws, InSp p h us w) → (∀ i, i < h → v.getD i 0 % p = dot c ws i % p) → InSp p h us v
  | [], [], v, _, _, hv => InSp.zero fun i hi => by rw [hv i hi, dot_nil, Nat.zero_mod]
  | [], _ :: _, v, h, _, _ => by simp at h
  | _ :: _, [], v, h, _, _ => by simp at h
  | w :: ws, a :: c, v, hl, hw, hv => by
    have q : InSp p h us ((List.range h).map fun i => dot c ws i) := insp_of_dot (ws := ws) (c := c) (by simpa using hl) (fun w hm => hw w (List.mem_cons_of_mem _ hm)) fun i hi => by simp [hi]
    refine InSp.lin (k := a) q (hw w (List.mem_cons_self ..)) fun i hi => ?_
    rw [hv i hi, dot_cons]
    simp [hi, Nat.add_comm]
theorem InSp.trans {p h : Nat} {ws us : List (List Nat)} {v : List Nat} (hv : InSp p h ws v) (hw : ∀ w ∈ ws, InSp p h us w) : InSp p h us v := by
  obtain ⟨c, lc, ec⟩ := hv
  exact insp_of_dot lc hw fun i hi => (ec i hi).symm

/-! ## freeness -/
def Free (p h : Nat) (ws : List (List Nat)) : Prop := ∀ c : List Nat, c.length = ws.length → (∀ i, i < h → dot c ws i % p = 0) → ∀ x ∈ c, x % p = 0
def Inv1 (p : Nat) : Prop := ∀ k, k % p ≠ 0 → ∃ k', k * k' % p = 1
theorem Free.nil {p h : Nat} : Free p h [] := fun c hc _ x hx => by
  have : c = [] := List.length_eq_zero_iff.mp hc
  subst this
  simp at hx
theorem Free.snoc {p h : Nat} {ws : List (List Nat)} {v : List Nat} (hp : 2 ≤ p) (hi : Inv1 p) (hf : Free p h ws) (hv : ¬ InSp p h ws v) : Free p h (ws ++ [v]) := by
  intro c hc h0 x hx
  obtain ⟨d, k, rfl⟩ : ∃ d k, c = d ++ [k] := by
    rcases List.eq_nil_or_concat c with e | ⟨d, k, e⟩
    · subst e
      simp at hc
    · exact ⟨d, k, by simpa using e⟩
  have ld : d.length = ws.length := by simpa using hc
  have h1 : ∀ i, i < h → (dot d ws i + k * v.getD i 0) % p = 0 := fun i hi' => by
    have := h0 i hi'
    rwa [dot_snoc d ws k v i ld] at this
  by_cases hk : k % p = 0
  · have h2 : ∀ i, i < h → dot d ws i % p = 0 := fun i hi' => by
      have q := h1 i hi'
      rw [Nat.add_mod, Nat.mul_mod, hk, Nat.zero_mul, Nat.zero_mod, Nat.add_zero, Nat.mod_mod] at q
      exact q
    rcases List.mem_append.mp hx with m | m
    · exact hf d ld h2 x m
    · rw [List.mem_singleton.mp m]
      exact hk
  · obtain ⟨k', hk'⟩ := hi k hk
    refine (hv ⟨d.map fun x => ((p - 1) * k') * x, by simp [ld], fun i hi' => ?_⟩).elim
    rw [dot_scale]
    obtain ⟨m, hm⟩ : ∃ m, dot d ws i + k * v.getD i 0 = p * m := ⟨(dot d ws i + k * v.getD i 0) / p, by
      have := Nat.div_add_mod (dot d ws i + k * v.getD i 0) p
      rw [h1 i hi'] at this
      omega⟩
    obtain ⟨j, hj⟩ : ∃ j, k * k' = p * j + 1 := ⟨k * k' / p, by
      have := Nat.div_add_mod (k * k') p
      omega⟩
    generalize dot d ws i = D at hm ⊢
    generalize v.getD i 0 = y at hm ⊢
    -- (p-1)k' D + p*k'*... : (p-1) k' D + (p - 1) k' k y = (p-1) k' p m
    have e1 : (p - 1) * k' * D + (p - 1) * (k * k') * y = p * ((p - 1) * k' * m) := by
      have : (p - 1) * k' * D + (p - 1) * (k * k') * y = (p - 1) * k' * (D + k * y) := by
        rw [Nat.mul_add]
        congr 1
        simp only [Nat.mul_assoc, Nat.mul_comm, Nat.mul_left_comm]
      rw [this, hm]
      simp only [Nat.mul_assoc, Nat.mul_comm, Nat.mul_left_comm]
    have e2 : (p - 1) * (k * k') * y + y = p * ((p - 1) * j * y) + p * y := by
      obtain ⟨q, rfl⟩ : ∃ q, p = q + 1 := ⟨p - 1, by omega⟩
      rw [hj]
      simp only [Nat.add_sub_cancel]
      grind
    have e3 : (p - 1) * k' * D + p * ((p - 1) * j * y) + p * y = p * ((p - 1) * k' * m) + y := by omega
    have e4 : ((p - 1) * k' * D + p * ((p - 1) * j * y) + p * y) % p = (p - 1) * k' * D % p := by
      rw [Nat.add_mul_mod_self_left, Nat.add_mul_mod_self_left]
    rw [← e4, e3, Nat.mul_add_mod]

/-! ## counting -/
theorem nodup_le {α : Type} [DecidableEq α] : ∀ {l m : List α}, l.Nodup → (∀ x ∈ l, x ∈ m) → l.length ≤ m.length
  | [], m, _, _ => by simp
  | x :: l, m, hn, hs => by
    obtain ⟨h1, h2⟩ := List.nodup_cons.mp hn
    have hx := hs x (List.mem_cons_self ..)
    have q := nodup_le (l := l) (m := m.erase x) h2 fun y hy => by
      have hne : y ≠ x := fun e => h1 (e ▸ hy)
      exact (List.mem_erase_of_ne hne).mpr (hs y (List.mem_cons_of_mem _ hy))
    rw [List.length_erase_of_mem hx] at q
    have : 0 < m.length := List.length_pos_of_mem hx
    simp only [List.length_cons]
    omega
theorem mem_rows (p : Nat) : ∀ (n : Nat) (c : List Nat), c ∈ Rd03.rows p n ↔ c.length = n ∧ ∀ x ∈ c, x < p
  | 0, c => by
    simp only [Rd03.rows, List.mem_singleton]
    constructor
    · rintro rfl
      simp
    · rintro ⟨h, _⟩
      exact List.length_eq_zero_iff.mp h
  | n + 1, c => by
    simp only [Rd03.rows, List.mem_flatMap, List.mem_range, List.mem_map]
    constructor
    · rintro ⟨x, hx, r, hr, rfl⟩
      obtain ⟨h1, h2⟩ := (mem_rows p n r).mp hr
      refine ⟨by simp [h1], fun y hy => ?_⟩
      rcases List.mem_cons.mp hy with e | e
      · rw [e]
        exact hx
      · exact h2 y e
    · rintro ⟨h1, h2⟩
      match c, h1 with
      | x :: r, h1 =>
        exact ⟨x, h2 x (List.mem_cons_self ..), r, (mem_rows p n r).mpr ⟨by simpa using h1, fun y hy => h2 y (List.mem_cons_of_mem _ hy)⟩, rfl⟩
theorem length_rows (p : Nat) : ∀ n, (Rd03.rows p n).length = p ^ n
  | 0 => rfl
  | n + 1 => by
    have : ∀ k, ((List.range k).flatMap fun x => (Rd03.rows p n).map fun r => x :: r).length = k * p ^ n := by
      intro k
      induction k with
      | zero => simp
      | succ k ih =>
        rw [List.range_succ, List.flatMap_append, List.length_append, ih]
        simp [length_rows p n, Nat.succ_mul]
    show ((List.range p).flatMap fun x => (Rd03.rows p n).map fun r => x :: r).length = _
    rw [this p, Nat.pow_succ, Nat.mul_comm]
theorem nodup_rows (p : Nat) : ∀ n, (Rd03.rows p n).Nodup
  | 0 => by simp [Rd03.rows]
  | n + 1 => by
    have hn := nodup_rows p n
    have : ∀ k, ((List.range k).flatMap fun x => (Rd03.rows p n).map fun r => x :: r).Nodup := by
      intro k
      induction k with
      | zero => simp
      | succ k ih =>
        rw [List.range_succ, List.flatMap_append, List.nodup_append]
        refine ⟨ih, ?_, ?_⟩
        · simp only [List.flatMap_cons, List.flatMap_nil, List.append_nil]
          exact List.Pairwise.map _ (fun a b hab e => hab (by simpa using e)) hn
        · intro a ha b hb e
          subst e
          simp only [List.flatMap_cons, List.flatMap_nil, List.append_nil, List.mem_map] at hb
          obtain ⟨r, _, rfl⟩ := hb
          simp only [List.mem_flatMap, List.mem_range, List.mem_map] at ha
          obtain ⟨x, hx, r', _, e⟩ := ha
          have := (List.cons.inj e).1
          omega
    exact this p
theorem comb_eq (p h : Nat) (c : List Nat) (ws : List (List Nat)) : Rd03.comb p h c ws = (List.range h).map fun i => dot c ws i % p := rfl
theorem nodup_map_on {α β : Type} {f : α → β} : ∀ {l : List α}, l.Nodup → (∀ x ∈ l, ∀ y ∈ l, f x = f y → x = y) → (l.map f).Nodup
  | [], _, _ => by simp
  | a :: l, hn, hf => by
    obtain ⟨h1, h2⟩ := List.nodup_cons.mp hn
    rw [List.map_cons, List.nodup_cons]
    refine ⟨fun hm => ?_, nodup_map_on h2 fun x hx y hy => hf x (List.mem_cons_of_mem _ hx) y (List.mem_cons_of_mem _ hy)⟩
    obtain ⟨b, hb, e⟩ := List.mem_map.mp hm
    exact h1 (hf b (List.mem_cons_of_mem _ hb) a (List.mem_cons_self ..) e ▸ hb)
theorem zip_eq_of_mod {p : Nat} : ∀ {c d : List Nat}, c.length = d.length → (∀ x ∈ c, x < p) → (∀ x ∈ d, x < p) → (∀ x ∈ List.zipWith (fun a b => a + (p - 1) * b) c d, x % p = 0) → c = d
  | [], [], _, _, _, _ => rfl
  | [], _ :: _, h, _, _, _ => by simp at h
  | _ :: _, [], h, _, _, _ => by simp at h
  | a :: c, b :: d, hl, hc, hd, h => by
    rw [zip_eq_of_mod (p := p) (c := c) (d := d) (by simpa using hl) (fun x hx => hc x (List.mem_cons_of_mem _ hx)) (fun x hx => hd x (List.mem_cons_of_mem _ hx)) (fun x hx => h x (by rw [List.zipWith_cons_cons]; exact List.mem_cons_of_mem _ hx))]
    have ha := hc a (List.mem_cons_self ..)
    have hb := hd b (List.mem_cons_self ..)
    have q := h (a + (p - 1) * b) (by rw [List.zipWith_cons_cons]; exact List.mem_cons_self ..)
    congr 1
    obtain ⟨m, rfl⟩ : ∃ m, p = m + 1 := ⟨p - 1, by omega⟩
    rw [Nat.add_sub_cancel] at q
    have e : a + m * b + b = a + (m + 1) * b := by rw [Nat.succ_mul, Nat.add_assoc]
    have q2 : (a + m * b + b) % (m + 1) = a := by
      rw [e, Nat.add_mul_mod_self_left, Nat.mod_eq_of_lt ha]
    rw [Nat.add_mod, q, Nat.zero_add, Nat.mod_mod, Nat.mod_eq_of_lt hb] at q2
    exact q2.symm
theorem free_le {p h : Nat} {ws us : List (List Nat)} (hp : 2 ≤ p) (hf : Free p h ws) (hs : ∀ w ∈ ws, InSp p h us w) : ws.length ≤ us.length := by
  have h1 : ((Rd03.rows p ws.length).map fun c => Rd03.comb p h c ws).Nodup := by
    refine nodup_map_on (nodup_rows p _) fun c hc d hd e => ?_
    obtain ⟨lc, bc⟩ := (mem_rows p _ c).mp hc
    obtain ⟨ld, bd⟩ := (mem_rows p _ d).mp hd
    refine zip_eq_of_mod (by rw [lc, ld]) bc bd (hf _ (by simp [lc, ld]) fun i hi => ?_)
    have e' : dot c ws i % p = dot d ws i % p := by
      have := congrArg (fun l => l.getD i 0) e
      simpa [comb_eq, hi] using this
    rw [dot_lin _ c d ws i lc ld, Nat.add_mod, e', Nat.mul_mod, ← Nat.mod_mod (dot d ws i) p, ← Nat.mul_mod, ← Nat.add_mod]
    obtain ⟨m, rfl⟩ : ∃ m, p = m + 1 := ⟨p - 1, by omega⟩
    rw [Nat.add_sub_cancel]
    have : dot d ws i % (m + 1) + m * (dot d ws i % (m + 1)) = (m + 1) * (dot d ws i % (m + 1)) := by rw [Nat.succ_mul, Nat.add_comm]
    rw [this, Nat.mul_mod_right]
  have h2 := nodup_le (m := (Rd03.rows p us.length).map fun c => Rd03.comb p h c us) h1 fun v hv => by
    obtain ⟨c, hc, rfl⟩ := List.mem_map.mp hv
    obtain ⟨lc, bc⟩ := (mem_rows p _ c).mp hc
    have : InSp p h us (Rd03.comb p h c ws) := insp_of_dot lc hs fun i hi => by simp [comb_eq, hi]
    obtain ⟨d, ld, ed⟩ := this
    refine List.mem_map.mpr ⟨d.map (· % p), (mem_rows p _ _).mpr ⟨by simp [ld], fun x hx => ?_⟩, ?_⟩
    · obtain ⟨y, _, rfl⟩ := List.mem_map.mp hx
      exact Nat.mod_lt _ (by omega)
    · rw [comb_eq, comb_eq]
      refine List.map_congr_left fun i hi => ?_
      have hi := List.mem_range.mp hi
      rw [dot_mod, ed i hi]
      simp [comb_eq, hi]
  rw [List.length_map, List.length_map, length_rows, length_rows] at h2
  exact (Nat.pow_le_pow_iff_right (by omega)).mp h2
/-- the specification's word for it -/
theorem free_iff {p h : Nat} {ws : List (List Nat)} (hp : 2 ≤ p) : Rd03.free p h ws = true ↔ Free p h ws := by
  unfold Rd03.free
  rw [List.all_eq_true]
  constructor
  · intro H c hc h0 x hx
    have q := H (c.map (· % p)) ((mem_rows p _ _).mpr ⟨by simp [hc], fun x hx => by
      obtain ⟨y, _, rfl⟩ := List.mem_map.mp hx
      exact Nat.mod_lt _ (by omega)⟩)
    rw [Bool.or_eq_true] at q
    rcases q with q | q
    · unfold Rd03.zero at q
      rw [List.all_eq_true] at q
      exact by simpa using q (x % p) (List.mem_map.mpr ⟨x, hx, rfl⟩)
    · have : Rd03.zero (Rd03.comb p h (c.map (· % p)) ws) = true := by
        unfold Rd03.zero
        rw [List.all_eq_true]
        intro y hy
        rw [comb_eq] at hy
        obtain ⟨i, hi, rfl⟩ := List.mem_map.mp hy
        rw [dot_mod, h0 i (List.mem_range.mp hi)]
        rfl
      rw [this] at q
      cases q
  · intro H c hc
    obtain ⟨lc, bc⟩ := (mem_rows p _ c).mp hc
    rw [Bool.or_eq_true]
    by_cases z : Rd03.zero (Rd03.comb p h c ws) = true
    · left
      unfold Rd03.zero at z ⊢
      rw [List.all_eq_true] at z ⊢
      intro x hx
      have := H c lc (fun i hi => by
        have := z (dot c ws i % p) (by rw [comb_eq]; exact List.mem_map.mpr ⟨i, List.mem_range.mpr hi, rfl⟩)
        simpa using this) x hx
      rw [Nat.mod_eq_of_lt (bc x hx)] at this
      simp [this]
    · right
      simp [z]
end NM
namespace NM
theorem getD_in {α : Type} {l : List α} {i : Nat} (d : α) (h : i < l.length) : l.getD i d = l[i] := by simp [List.getD, h]
theorem getD_out {α : Type} {l : List α} {i : Nat} (d : α) (h : l.length ≤ i) : l.getD i d = d := by simp [List.getD, h]
theorem getD_rep0 (n i : Nat) : (List.replicate n 0).getD i 0 = 0 := by
  by_cases h : i < n
  · rw [getD_in _ (by simpa using h), List.getElem_replicate]
  · rw [getD_out _ (by simpa using h)]
/-! ## the program's elimination, as plain functions -/
def added (p : Nat) (one other : List Nat) (times : Nat) : List Nat := List.zipWith (fun a b => (a + times * b) % p) one other
def lessened (p : Nat) (row : List Nat) (steps : List (Nat × List Nat)) : List Nat := steps.foldl (fun r s => added p r s.2 (p - r.getD s.1 0)) row
def firstPlace (row : List Nat) : Option Nat := row.findIdx? fun x => x != 0
def invCands (p a : Nat) : List Nat := (List.range' 1 (p - 1)).filter fun o => a * o % p == 1
def invOf (p a : Nat) : Nat := (invCands p a).headD 0
def oneStep (p : Nat) (steps : List (Nat × List Nat)) (row : List Nat) : List (Nat × List Nat) :=
  match firstPlace (lessened p row steps) with
  | none => steps
  | some place => steps ++ [(place, added p (List.replicate (lessened p row steps).length 0) (lessened p row steps) (invOf p ((lessened p row steps).getD place 0)))]
def elim (p : Nat) (rows : List (List Nat)) : List (Nat × List Nat) := rows.foldl (oneStep p) []

/-- a row of h numbers below p -/
def RowOk (p h : Nat) (r : List Nat) : Prop := r.length = h ∧ ∀ x ∈ r, x < p
theorem RowOk.lt {p h : Nat} {r : List Nat} (hr : RowOk p h r) (hp : 0 < p) (i : Nat) : r.getD i 0 < p := by
  by_cases hi : i < r.length
  · rw [getD_in _ hi]
    exact hr.2 _ (List.getElem_mem hi)
  · rw [getD_out _ (by omega)]
    exact hp
theorem added_ok {p h : Nat} {a b : List Nat} {k : Nat} (hp : 0 < p) (ha : a.length = h) (hb : b.length = h) : RowOk p h (added p a b k) := by
  refine ⟨by simp [added, ha, hb], fun x hx => ?_⟩
  unfold added at hx
  rw [List.mem_iff_getElem] at hx
  obtain ⟨i, hi, rfl⟩ := hx
  rw [List.getElem_zipWith]
  exact Nat.mod_lt _ hp
theorem added_at {p h : Nat} {a b : List Nat} {k i : Nat} (ha : a.length = h) (hb : b.length = h) (hi : i < h) : (added p a b k).getD i 0 = (a.getD i 0 + k * b.getD i 0) % p := by
  unfold added
  rw [getD_in _ (by simp [ha, hb, hi]), List.getElem_zipWith, getD_in _ (by omega), getD_in _ (by omega)]

/-- the steps stand in echelon: each is 1 at its place, the later ones are 0 there -/
inductive Ech (p h : Nat) : List (Nat × List Nat) → Prop
  | nil : Ech p h []
  | cons {pl : Nat} {s : List Nat} {r : List (Nat × List Nat)} : pl < h → RowOk p h s → s.getD pl 0 = 1 → (∀ q ∈ r, q.2.getD pl 0 = 0) → Ech p h r → Ech p h ((pl, s) :: r)
theorem Ech.ok {p h : Nat} : ∀ {st : List (Nat × List Nat)}, Ech p h st → ∀ q ∈ st, q.1 < h ∧ RowOk p h q.2
  | [], _, q, hq => by simp at hq
  | _ :: r, .cons h1 h2 h3 h4 h5, q, hq => by
    rcases List.mem_cons.mp hq with e | e
    · subst e
      exact ⟨h1, h2⟩
    · exact h5.ok q e
theorem Ech.snoc {p h : Nat} {pl : Nat} {s : List Nat} : ∀ {st : List (Nat × List Nat)}, Ech p h st → pl < h → RowOk p h s → s.getD pl 0 = 1 → (∀ q ∈ st, s.getD q.1 0 = 0) → Ech p h (st ++ [(pl, s)])
  | [], _, h1, h2, h3, _ => .cons h1 h2 h3 (fun q hq => by simp at hq) .nil
  | _ :: r, .cons a1 a2 a3 a4 a5, h1, h2, h3, h4 => by
    refine .cons a1 a2 a3 (fun q hq => ?_) (a5.snoc h1 h2 h3 fun q hq => h4 q (List.mem_cons_of_mem _ hq))
    rcases List.mem_append.mp hq with e | e
    · exact a4 q e
    · rw [List.mem_singleton.mp e]
      exact h4 _ (List.mem_cons_self ..)
theorem dot_zero_at {pl : Nat} : ∀ (c : List Nat) (st : List (Nat × List Nat)), (∀ q ∈ st, q.2.getD pl 0 = 0) → dot c (st.map (·.2)) pl = 0
  | [], st, _ => dot_nil _ _
  | _ :: _, [], _ => by simp [dot]
  | a :: c, q :: st, h => by
    rw [List.map_cons, dot_cons, h q (List.mem_cons_self ..), dot_zero_at c st fun q hq => h q (List.mem_cons_of_mem _ hq)]
    omega
/-- a combination of such steps that is 0 at their places is 0 -/
theorem Ech.zero {p h : Nat} : ∀ {st : List (Nat × List Nat)} {c : List Nat}, Ech p h st → c.length = st.length → (∀ q ∈ st, dot c (st.map (·.2)) q.1 % p = 0) → ∀ i, dot c (st.map (·.2)) i % p = 0
  | [], c, _, hc, _, i => by
    rw [List.length_eq_zero_iff.mp hc, dot_nil, Nat.zero_mod]
  | _ :: _, [], _, hc, _, _ => by simp at hc
  | (pl, s) :: r, a :: c, .cons h1 h2 h3 h4 h5, hc, hz, i => by
    have ha : a % p = 0 := by
      have q := hz (pl, s) (List.mem_cons_self ..)
      rw [List.map_cons, dot_cons] at q
      simp only [] at q
      rw [h3, dot_zero_at c r h4, Nat.mul_one, Nat.add_zero] at q
      exact q
    have e : ∀ j, dot (a :: c) (((pl, s) :: r).map (·.2)) j % p = dot c (r.map (·.2)) j % p := fun j => by
      rw [List.map_cons, dot_cons, Nat.add_mod, Nat.mul_mod, ha, Nat.zero_mul, Nat.zero_mod, Nat.zero_add, Nat.mod_mod]
    rw [e i]
    exact h5.zero (by simpa using hc) (fun q hq => by rw [← e q.1]; exact hz q (List.mem_cons_of_mem _ hq)) i
/-- what lessened makes of a row -/
theorem lessened_spec {p h : Nat} (hp : 0 < p) : ∀ {st : List (Nat × List Nat)} {row : List Nat}, Ech p h st → RowOk p h row →
    RowOk p h (lessened p row st) ∧ (∃ c : List Nat, c.length = st.length ∧ ∀ i, i < h → (lessened p row st).getD i 0 % p = (row.getD i 0 + dot c (st.map (·.2)) i) % p) ∧ (∀ q ∈ st, (lessened p row st).getD q.1 0 = 0) ∧
      (∀ pl, row.getD pl 0 = 0 → (∀ q ∈ st, q.2.getD pl 0 = 0) → pl < h → (lessened p row st).getD pl 0 = 0)
  | [], row, _, hr => ⟨hr, ⟨[], rfl, fun i _ => by simp [lessened, dot]⟩, fun q hq => by simp at hq, fun pl e _ _ => e⟩
  | (pl, s) :: r, row, .cons h1 h2 h3 h4 h5, hr => by
    have ha := added_ok (p := p) (h := h) (k := p - row.getD pl 0) hp hr.1 h2.1
    obtain ⟨i1, ⟨c, lc, ec⟩, i3, i4⟩ := lessened_spec hp (row := added p row s (p - row.getD pl 0)) h5 ha
    have e : lessened p row ((pl, s) :: r) = lessened p (added p row s (p - row.getD pl 0)) r := rfl
    have z0 : (added p row s (p - row.getD pl 0)).getD pl 0 = 0 := by
      rw [added_at hr.1 h2.1 h1, h3, Nat.mul_one]
      have := hr.lt hp pl
      rw [show row.getD pl 0 + (p - row.getD pl 0) = p by omega, Nat.mod_self]
    rw [e]
    refine ⟨i1, ⟨(p - row.getD pl 0) :: c, by simp [lc], fun i hi => ?_⟩, fun q hq => ?_, fun pl' e' hq hl => ?_⟩
    · rw [ec i hi, added_at hr.1 h2.1 hi, List.map_cons, dot_cons, Nat.mod_add_mod, Nat.add_assoc]
    · rcases List.mem_cons.mp hq with e | e
      · subst e
        exact i4 pl z0 h4 h1
      · exact i3 q e
    · refine i4 pl' ?_ (fun q hq' => hq q (List.mem_cons_of_mem _ hq')) hl
      rw [added_at hr.1 h2.1 hl, e', hq (pl, s) (List.mem_cons_self ..)]
      simp
theorem inv_spec {p a : Nat} (hp : 2 ≤ p) (hi : Inv1 p) (ha : a % p ≠ 0) : a * invOf p a % p = 1 ∧ invOf p a ∈ invCands p a := by
  obtain ⟨k, hk⟩ := hi a ha
  have hk0 : k % p ≠ 0 := fun z => by
    rw [Nat.mul_mod, z, Nat.mul_zero, Nat.zero_mod] at hk
    omega
  have hm : k % p ∈ invCands p a := by
    unfold invCands
    rw [List.mem_filter, List.mem_range'_1]
    have := Nat.mod_lt k (show 0 < p by omega)
    refine ⟨by omega, ?_⟩
    rw [Nat.mul_mod, Nat.mod_mod, ← Nat.mul_mod, hk]
    rfl
  have : invOf p a ∈ invCands p a := by
    unfold invOf
    cases h : invCands p a with
    | nil =>
      rw [h] at hm
      simp at hm
    | cons x r => simp
  refine ⟨?_, this⟩
  unfold invCands at this
  have := (List.mem_filter.mp this).2
  simpa using this
theorem firstPlace_none {r : List Nat} (h : firstPlace r = none) (i : Nat) : r.getD i 0 = 0 := by
  unfold firstPlace at h
  rw [List.findIdx?_eq_none_iff] at h
  by_cases hi : i < r.length
  · rw [getD_in _ hi]
    have := h _ (List.getElem_mem hi)
    simpa using this
  · rw [getD_out _ (by omega)]
theorem firstPlace_some {r : List Nat} {i : Nat} (h : firstPlace r = some i) : i < r.length ∧ r.getD i 0 ≠ 0 := by
  unfold firstPlace at h
  obtain ⟨hi, h1, _⟩ := List.findIdx?_eq_some_iff_getElem.mp h
  refine ⟨hi, ?_⟩
  rw [getD_in _ hi]
  simpa using h1

/-! ## the invariant of the elimination -/
theorem picked_snoc_no {m : Nat} {vs : List (List Nat)} {v : List Nat} (hm : m < 2 ^ vs.length) : Rd03.picked m (vs ++ [v]) = Rd03.picked m vs := by
  unfold Rd03.picked
  rw [List.zipIdx_append, List.filter_append, List.map_append]
  have : m.testBit vs.length = false := Nat.testBit_lt_two_pow hm
  simp [this]
theorem picked_snoc_yes {m : Nat} {vs : List (List Nat)} {v : List Nat} : Rd03.picked (m ||| 2 ^ vs.length) (vs ++ [v]) = Rd03.picked m vs ++ [v] := by
  unfold Rd03.picked
  rw [List.zipIdx_append, List.filter_append, List.map_append]
  congr 1
  · congr 1
    refine List.filter_congr fun z hz => ?_
    have : z.2 < vs.length := by
      have := List.snd_lt_of_mem_zipIdx hz
      omega
    rw [Nat.testBit_or, Nat.testBit_two_pow]
    have : ¬ vs.length = z.2 := by omega
    simp [this]
  · simp [Nat.testBit_or, Nat.testBit_two_pow]
theorem picked_sub {m : Nat} {vs : List (List Nat)} {v : List Nat} (h : v ∈ Rd03.picked m vs) : v ∈ vs := by
  unfold Rd03.picked at h
  obtain ⟨z, hz, rfl⟩ := List.mem_map.mp h
  exact List.fst_mem_of_mem_zipIdx (List.mem_filter.mp hz).1
structure El (p h : Nat) (done : List (List Nat)) (st : List (Nat × List Nat)) (w : List (List Nat)) : Prop where
  len : w.length = st.length
  free : Free p h w
  mask : ∃ m, m < 2 ^ done.length ∧ Rd03.picked m done = w
  all : ∀ v ∈ done, InSp p h w v
  ech : Ech p h st
  to : ∀ v ∈ w, InSp p h (st.map (·.2)) v
  from_ : ∀ v ∈ st.map (·.2), InSp p h w v
theorem el_nil {p h : Nat} : El p h [] [] [] := ⟨rfl, Free.nil, ⟨0, by simp, rfl⟩, fun v h => by simp at h, .nil, fun v h => by simp at h, fun v h => by simp at h⟩
theorem el_step {p h : Nat} (hp : 2 ≤ p) (hi : Inv1 p) {done : List (List Nat)} {st : List (Nat × List Nat)} {w : List (List Nat)} {row : List Nat} (E : El p h done st w) (hr : RowOk p h row) :
    ∃ w', El p h (done ++ [row]) (oneStep p st row) w' := by
  have hp0 : 0 < p := by omega
  obtain ⟨L1, ⟨c, lc, ec⟩, L3, _⟩ := lessened_spec hp0 E.ech hr
  obtain ⟨m, hm, em⟩ := E.mask
  unfold oneStep
  generalize hL : lessened p row st = left at L1 ec L3
  have lS : c.length = (st.map (·.2)).length := by simp [lc]
  -- the row from what is left and the steps
  have row_of : ∀ us, (∀ v ∈ st.map (·.2), InSp p h us v) → InSp p h us left → InSp p h us row := fun us hus hl => by
    have q : InSp p h us ((List.range h).map fun i => dot c (st.map (·.2)) i) := insp_of_dot lS hus fun i hi' => by simp [hi']
    refine InSp.lin (k := p - 1) hl q fun i hi' => ?_
    rw [Nat.add_mod, ec i hi', ← Nat.add_mod]
    have e : ((List.range h).map fun i => dot c (st.map (·.2)) i).getD i 0 = dot c (st.map (·.2)) i := by simp [hi']
    rw [e]
    obtain ⟨p', rfl⟩ : ∃ q, p = q + 1 := ⟨p - 1, by omega⟩
    rw [Nat.add_sub_cancel, Nat.add_assoc]
    have : dot c (st.map (·.2)) i + p' * dot c (st.map (·.2)) i = (p' + 1) * dot c (st.map (·.2)) i := by rw [Nat.succ_mul, Nat.add_comm]
    rw [this, Nat.add_mul_mod_self_left]
  have left_of : ∀ us, (∀ v ∈ st.map (·.2), InSp p h us v) → InSp p h us row → InSp p h us left := fun us hus hl => by
    have q : InSp p h us ((List.range h).map fun i => dot c (st.map (·.2)) i) := insp_of_dot lS hus fun i hi' => by simp [hi']
    refine InSp.lin (k := 1) hl q fun i hi' => ?_
    rw [ec i hi']
    have e : ((List.range h).map fun i => dot c (st.map (·.2)) i).getD i 0 = dot c (st.map (·.2)) i := by simp [hi']
    rw [e, Nat.one_mul]
  cases hfp : firstPlace left with
  | none =>
    refine ⟨w, E.len, E.free, ⟨m, ?_, ?_⟩, ?_, E.ech, E.to, E.from_⟩
    · rw [List.length_append, List.length_singleton, Nat.pow_succ]
      omega
    · rw [picked_snoc_no hm, em]
    · intro v hv
      rcases List.mem_append.mp hv with e | e
      · exact E.all v e
      · rw [List.mem_singleton.mp e]
        exact row_of w E.from_ (InSp.zero fun i _ => by rw [firstPlace_none hfp i, Nat.zero_mod])
  | some pl =>
    obtain ⟨hpl, hne⟩ := firstPlace_some hfp
    have hplh : pl < h := by rw [← L1.1]; exact hpl
    have hne' : left.getD pl 0 % p ≠ 0 := by rw [Nat.mod_eq_of_lt (L1.lt hp0 pl)]; exact hne
    obtain ⟨hinv, _⟩ := inv_spec hp hi hne'
    dsimp only
    generalize invOf p (left.getD pl 0) = iv at hinv ⊢
    have hz : (List.replicate left.length 0).length = h := by simp [L1.1]
    have sok := added_ok (p := p) (h := h) (k := iv) hp0 hz L1.1
    have sat : ∀ i, i < h → (added p (List.replicate left.length 0) left iv).getD i 0 = iv * left.getD i 0 % p := fun i hi' => by
      rw [added_at hz L1.1 hi']
      rw [getD_rep0, Nat.zero_add]
    show ∃ w', El p h (done ++ [row]) (st ++ [(pl, added p (List.replicate left.length 0) left iv)]) w'
    generalize hs : added p (List.replicate left.length 0) left iv = s at sok sat
    have s_left : InSp p h ((st.map (·.2)) ++ [s]) left := by
      refine InSp.lin (k := left.getD pl 0) (v := List.replicate h 0) (InSp.zero fun i hi' => by simp [List.getD, hi']) (InSp.last (w := s)) fun i hi' => ?_
      rw [sat i hi']
      have e0 : (List.replicate h 0).getD i 0 = 0 := by simp [List.getD, hi']
      rw [e0, Nat.zero_add, Nat.mul_mod, Nat.mod_mod, ← Nat.mul_mod, ← Nat.mul_assoc, Nat.mul_mod, hinv, Nat.one_mul, Nat.mod_mod]
    have nin : ¬ InSp p h w row := fun hin => by
      have h1 : InSp p h (st.map (·.2)) left := left_of _ (fun v hv => InSp.mem hv) (hin.trans E.to)
      obtain ⟨d, ld, ed⟩ := h1
      have hz := E.ech.zero (c := d) (by simpa using ld) fun q hq => by
        obtain ⟨hq1, _⟩ := E.ech.ok q hq
        rw [ed q.1 hq1, L3 q hq, Nat.zero_mod]
      exact hne' (by rw [← ed pl hplh]; exact hz pl)
    refine ⟨w ++ [row], by simp [E.len], E.free.snoc hp hi nin, ⟨m ||| 2 ^ done.length, ?_, ?_⟩, ?_, ?_, ?_, ?_⟩
    · rw [List.length_append, List.length_singleton]
      exact Nat.or_lt_two_pow (Nat.lt_of_lt_of_le hm (Nat.pow_le_pow_right (by omega) (by omega))) (Nat.pow_lt_pow_right (by omega) (by omega))
    · rw [picked_snoc_yes, em]
    · intro v hv
      rcases List.mem_append.mp hv with e | e
      · exact (E.all v e).snoc
      · rw [List.mem_singleton.mp e]
        exact InSp.last
    · refine E.ech.snoc hplh sok ?_ fun q hq => ?_
      · rw [sat pl hplh, Nat.mul_comm, hinv]
      · obtain ⟨hq1, _⟩ := E.ech.ok q hq
        rw [sat q.1 hq1, L3 q hq, Nat.mul_zero, Nat.zero_mod]
    · intro v hv
      rw [List.map_append]
      rcases List.mem_append.mp hv with e | e
      · exact (E.to v e).snoc
      · rw [List.mem_singleton.mp e]
        exact row_of _ (fun v hv => (InSp.mem hv).snoc) s_left
    · intro v hv
      rw [List.map_append] at hv
      rcases List.mem_append.mp hv with e | e
      · exact (E.from_ v e).snoc
      · rw [List.mem_singleton.mp e]
        have hl : InSp p h (w ++ [row]) left := left_of _ (fun v hv => (E.from_ v hv).snoc) InSp.last
        refine InSp.lin (k := iv) (v := List.replicate h 0) (InSp.zero fun i hi' => by simp [List.getD, hi']) hl fun i hi' => ?_
        show s.getD i 0 % p = _
        rw [sat i hi']
        have e0 : (List.replicate h 0).getD i 0 = 0 := by simp [List.getD, hi']
        rw [e0, Nat.zero_add, Nat.mod_mod]
theorem el_all {p h : Nat} (hp : 2 ≤ p) (hi : Inv1 p) : ∀ (rows done : List (List Nat)) (st : List (Nat × List Nat)) (w : List (List Nat)), El p h done st w → (∀ r ∈ rows, RowOk p h r) → ∃ w', El p h (done ++ rows) (rows.foldl (oneStep p) st) w'
  | [], done, st, w, E, _ => ⟨w, by rw [List.append_nil]; exact E⟩
  | r :: rows, done, st, w, E, hr => by
    obtain ⟨w1, E1⟩ := el_step hp hi E (hr r (List.mem_cons_self ..))
    obtain ⟨w2, E2⟩ := el_all hp hi rows (done ++ [r]) _ w1 E1 fun q hq => hr q (List.mem_cons_of_mem _ hq)
    exact ⟨w2, by rw [List.append_assoc] at E2; exact E2⟩
theorem foldl_max_le {n : Nat} : ∀ (l : List Nat) (a : Nat), a ≤ n → (∀ x ∈ l, x ≤ n) → l.foldl max a ≤ n
  | [], a, h, _ => h
  | x :: l, a, h, hl => foldl_max_le l (max a x) (Nat.max_le.mpr ⟨h, hl x (List.mem_cons_self ..)⟩) fun y hy => hl y (List.mem_cons_of_mem _ hy)
theorem le_foldl_max : ∀ (l : List Nat) (a : Nat), a ≤ l.foldl max a ∧ ∀ x ∈ l, x ≤ l.foldl max a
  | [], a => ⟨Nat.le_refl _, fun x h => by simp at h⟩
  | y :: l, a => by
    obtain ⟨h1, h2⟩ := le_foldl_max l (max a y)
    refine ⟨Nat.le_trans (Nat.le_max_left ..) h1, fun x hx => ?_⟩
    rcases List.mem_cons.mp hx with e | e
    · subst e
      exact Nat.le_trans (Nat.le_max_right ..) h1
    · exact h2 x e
/-- the elimination's count is the specification's rank -/
theorem elim_rank {p h : Nat} (hp : 2 ≤ p) (hi : Inv1 p) (vs : List (List Nat)) (hv : ∀ r ∈ vs, RowOk p h r) : (elim p vs).length = Rd03.rankOf p h vs := by
  obtain ⟨w, E⟩ := el_all hp hi vs [] [] [] el_nil hv
  rw [List.nil_append] at E
  have el : (elim p vs).length = w.length := E.len.symm
  rw [el]
  unfold Rd03.rankOf Rd03.greatest
  obtain ⟨m, hm, em⟩ := E.mask
  apply Nat.le_antisymm
  · refine (le_foldl_max _ 0).2 _ ?_
    rw [List.mem_filterMap]
    refine ⟨w, List.mem_map.mpr ⟨m, List.mem_range.mpr hm, em⟩, ?_⟩
    rw [if_pos ((free_iff hp).mpr E.free)]
  · refine foldl_max_le _ 0 (Nat.zero_le _) fun x hx => ?_
    obtain ⟨u, hu, e⟩ := List.mem_filterMap.mp hx
    obtain ⟨m', hm', rfl⟩ := List.mem_map.mp hu
    by_cases hf : Rd03.free p h (Rd03.picked m' vs) = true
    · rw [if_pos hf] at e
      rw [← Option.some.inj e]
      exact free_le hp ((free_iff hp).mp hf) fun v hv' => E.all v (picked_sub hv')
    · rw [if_neg hf] at e
      cases e
end NM
namespace NM
theorem prime_iff {p : Nat} : Rd03.prime p = true ↔ 2 ≤ p ∧ ∀ d, 2 ≤ d → d < p → p % d ≠ 0 := by
  unfold Rd03.prime
  rw [Bool.and_eq_true, decide_eq_true_eq, List.all_eq_true]
  constructor
  · rintro ⟨h1, h2⟩
    refine ⟨h1, fun d hd hl => ?_⟩
    have := h2 d (List.mem_range.mpr hl)
    rw [Bool.or_eq_true, decide_eq_true_eq] at this
    rcases this with h | h
    · omega
    · simpa using h
  · rintro ⟨h1, h2⟩
    refine ⟨h1, fun d hd => ?_⟩
    by_cases h : d < 2
    · simp [h]
    · have := h2 d (by omega) (List.mem_range.mp hd)
      simp [this]
theorem inv_of_prime {p : Nat} (hp : Rd03.prime p = true) : Inv1 p := by
  obtain ⟨h2, hd⟩ := prime_iff.mp hp
  intro k hk
  have hcop : Nat.Coprime p k := by
    show Nat.gcd p k = 1
    have hg : Nat.gcd p k ∣ p := Nat.gcd_dvd_left ..
    have hle : Nat.gcd p k ≤ p := Nat.le_of_dvd (by omega) hg
    have hpos : 0 < Nat.gcd p k := Nat.gcd_pos_of_pos_left _ (by omega)
    by_cases h1 : Nat.gcd p k = 1
    · exact h1
    · by_cases h3 : Nat.gcd p k = p
      · have : p ∣ k := by
          have := Nat.gcd_dvd_right p k
          rwa [h3] at this
        exact absurd (Nat.mod_eq_zero_of_dvd this) hk
      · exact absurd (Nat.mod_eq_zero_of_dvd hg) (hd _ (by omega) (by omega))
  have key : ∀ x y, x < p → y < p → x ≤ y → k * x % p = k * y % p → x = y := fun x y hx hy hxy e => by
    have hdv : p ∣ k * (y - x) := by
      rw [Nat.mul_sub]
      exact Nat.dvd_of_mod_eq_zero (Nat.sub_mod_eq_zero_of_mod_eq e.symm)
    have := Nat.Coprime.dvd_of_dvd_mul_left hcop hdv
    rcases Nat.eq_zero_or_pos (y - x) with z | z
    · omega
    · have := Nat.le_of_dvd z this
      omega
  have hn : ((List.range p).map fun x => k * x % p).Nodup := nodup_map_on List.nodup_range fun x hx y hy e => by
    have hx := List.mem_range.mp hx
    have hy := List.mem_range.mp hy
    rcases Nat.le_total x y with h | h
    · exact key x y hx hy h e
    · exact (key y x hy hx h e.symm).symm
  by_cases h1 : 1 ∈ (List.range p).map fun x => k * x % p
  · obtain ⟨x, _, e⟩ := List.mem_map.mp h1
    exact ⟨x, e⟩
  · have := nodup_le (m := (List.range p).erase 1) hn fun x hx => by
      have hne : x ≠ 1 := fun e => h1 (e ▸ hx)
      refine (List.mem_erase_of_ne hne).mpr ?_
      obtain ⟨y, _, rfl⟩ := List.mem_map.mp hx
      exact List.mem_range.mpr (Nat.mod_lt _ (by omega))
    rw [List.length_map, List.length_range, List.length_erase_of_mem (List.mem_range.mpr (by omega)), List.length_range] at this
    omega
end NM
namespace NM
open Rd03 (Net tail head many into out cut least)
/-! ## ways and cuts -/
def fromN (N : Net) (v : Nat) : List Nat := (List.range (many N)).filter fun e => tail N e == v
theorem mem_fromN {N : Net} {v e : Nat} : e ∈ fromN N v ↔ e < many N ∧ tail N e = v := by simp [fromN]
theorem mem_into {N : Net} {v e : Nat} : e ∈ into N v ↔ e < many N ∧ head N e = v := by simp [into]
/-- where one may go on from a node -/
def stepsFrom (N : Net) (v : Nat) (used : List Nat) : List (Nat × Nat) :=
  ((fromN N v).filter fun e => !used.contains e).map (fun e => (head N e, e)) ++ ((into N v).filter fun e => used.contains e).map fun e => (tail N e, e)
theorem mem_steps {N : Net} {v : Nat} {used : List Nat} {w e : Nat} : (w, e) ∈ stepsFrom N v used ↔ (e < many N ∧ tail N e = v ∧ head N e = w ∧ e ∉ used) ∨ (e < many N ∧ head N e = v ∧ tail N e = w ∧ e ∈ used) := by
  simp only [stepsFrom, List.mem_append, List.mem_map, List.mem_filter, mem_fromN, mem_into, Prod.mk.injEq]
  constructor
  · rintro (⟨a, ⟨⟨h1, h2⟩, h3⟩, h4, rfl⟩ | ⟨a, ⟨⟨h1, h2⟩, h3⟩, h4, rfl⟩)
    · exact .inl ⟨h1, h2, h4, by simpa using h3⟩
    · exact .inr ⟨h1, h2, h4, by simpa using h3⟩
  · rintro (⟨h1, h2, h3, h4⟩ | ⟨h1, h2, h3, h4⟩)
    · exact .inl ⟨e, ⟨⟨h1, h2⟩, by simpa using h4⟩, h3, rfl⟩
    · exact .inr ⟨e, ⟨⟨h1, h2⟩, by simpa using h4⟩, h3, rfl⟩
/-- what is found: a node, and the step that leads there -/
abbrev Found := List (Nat × Option (Nat × Nat))
def keys (f : Found) : List Nat := f.map (·.1)
def look (f : Found) (v : Nat) : Option (Option (Nat × Nat)) := (f.find? fun q => decide (q.1 = v)).map (·.2)
/-- found grows: each step leads from a node found earlier -/
inductive Grown (N : Net) (used : List Nat) : Found → Prop
  | one : Grown N used [(0, none)]
  | more {f : Found} {u v e : Nat} : Grown N used f → u ∈ keys f → v ∉ keys f → (v, e) ∈ stepsFrom N u used → Grown N used (f ++ [(v, some (u, e))])
theorem keys_snoc (f : Found) (q : Nat × Option (Nat × Nat)) : keys (f ++ [q]) = keys f ++ [q.1] := by simp [keys]
theorem Grown.nodup {N : Net} {used : List Nat} {f : Found} (g : Grown N used f) : (keys f).Nodup := by
  induction g with
  | one => simp [keys]
  | more g h1 h2 h3 ih =>
    rw [keys_snoc, List.nodup_append]
    refine ⟨ih, by simp, fun a ha b hb e => ?_⟩
    rw [List.mem_singleton.mp hb] at e
    rw [e] at ha
    exact h2 ha
theorem Grown.zero {N : Net} {used : List Nat} {f : Found} (g : Grown N used f) : 0 ∈ keys f := by
  induction g with
  | one => simp [keys]
  | more g h1 h2 h3 ih =>
    rw [keys_snoc]
    exact List.mem_append_left _ ih
/-- the net's lines lead onward -/
def NetOk (N : Net) : Prop := ∀ e, e < many N → tail N e < head N e ∧ head N e < N.n
theorem step_lt {N : Net} (hN : NetOk N) {u v e : Nat} {used : List Nat} (h : (v, e) ∈ stepsFrom N u used) : v < N.n := by
  rcases mem_steps.mp h with ⟨h1, h2, h3, h4⟩ | ⟨h1, h2, h3, h4⟩ <;> have := hN e h1 <;> omega
theorem Grown.lt {N : Net} (hN : NetOk N) (h0 : 0 < N.n) {used : List Nat} {f : Found} (g : Grown N used f) : ∀ v ∈ keys f, v < N.n := by
  induction g with
  | one => simp [keys, h0]
  | more g h1 h2 h3 ih =>
    intro v hv
    rw [keys_snoc] at hv
    rcases List.mem_append.mp hv with e | e
    · exact ih v e
    · rw [List.mem_singleton.mp e]
      exact step_lt hN h3
theorem Grown.len {N : Net} (hN : NetOk N) (h0 : 0 < N.n) {used : List Nat} {f : Found} (g : Grown N used f) : f.length ≤ N.n := by
  have := nodup_le (m := List.range N.n) g.nodup fun x hx => List.mem_range.mpr (g.lt hN h0 x hx)
  simpa [keys] using this
theorem look_snoc_old {f : Found} {q : Nat × Option (Nat × Nat)} {v : Nat} (h : v ∈ keys f) : look (f ++ [q]) v = look f v := by
  unfold look
  rw [List.find?_append]
  have : (f.find? fun q => decide (q.1 = v)).isSome = true := by
    rw [List.find?_isSome]
    obtain ⟨x, hx, e⟩ := List.mem_map.mp h
    exact ⟨x, hx, decide_eq_true e⟩
  obtain ⟨y, hy⟩ := Option.isSome_iff_exists.mp this
  rw [hy]
  rfl
theorem look_none {f : Found} {v : Nat} : look f v = none ↔ v ∉ keys f := by
  unfold look
  rw [Option.map_eq_none_iff, List.find?_eq_none]
  constructor
  · intro h hm
    obtain ⟨x, hx, e⟩ := List.mem_map.mp hm
    exact h x hx (decide_eq_true e)
  · intro h x hx e
    exact h (List.mem_map.mpr ⟨x, hx, of_decide_eq_true e⟩)
theorem look_snoc_new {f : Found} {v : Nat} {o : Option (Nat × Nat)} (h : v ∉ keys f) : look (f ++ [(v, o)]) v = some o := by
  unfold look
  rw [List.find?_append]
  have : (f.find? fun q => decide (q.1 = v)) = none := by
    rw [List.find?_eq_none]
    intro x hx e
    exact h (List.mem_map.mpr ⟨x, hx, of_decide_eq_true e⟩)
  rw [this]
  simp
/-- the way back from a node; its nodes -/
inductive WayTo (f : Found) : Nat → List Nat → Prop
  | stop {v : Nat} : look f v = some none → WayTo f v []
  | on {v u e : Nat} {l : List Nat} : look f v = some (some (u, e)) → WayTo f u l → WayTo f v (e :: l)
/-- what is told of a node found -/
theorem Grown.look_at {N : Net} {used : List Nat} {f : Found} (g : Grown N used f) : ∀ v ∈ keys f, (v = 0 ∧ look f v = some none) ∨ ∃ u e, look f v = some (some (u, e)) ∧ u ∈ keys f ∧ (v, e) ∈ stepsFrom N u used ∧ (keys f).idxOf u < (keys f).idxOf v := by
  induction g with
  | one =>
    intro v hv
    have : v = 0 := by simpa [keys] using hv
    subst this
    exact .inl ⟨rfl, rfl⟩
  | @more f u v e g h1 h2 h3 ih =>
    intro x hx
    rw [keys_snoc] at hx
    by_cases hxf : x ∈ keys f
    · rw [look_snoc_old hxf, keys_snoc]
      rcases ih x hxf with h | ⟨a, b, c1, c2, c3, c4⟩
      · exact .inl h
      · refine .inr ⟨a, b, c1, List.mem_append_left _ c2, c3, ?_⟩
        rw [List.idxOf_append, List.idxOf_append, if_pos c2, if_pos hxf]
        exact c4
    · have e' : x = v := by
        rcases List.mem_append.mp hx with q | q
        · exact absurd q hxf
        · exact List.mem_singleton.mp q
      subst e'
      refine .inr ⟨u, e, look_snoc_new hxf, ?_, h3, ?_⟩
      · rw [keys_snoc]
        exact List.mem_append_left _ h1
      · rw [keys_snoc, List.idxOf_append, List.idxOf_append, if_pos h1, if_neg hxf]
        have := List.idxOf_lt_length_of_mem h1
        omega
/-! ### the lines used, and what one more way makes of them -/
def toggle (used : List Nat) (e : Nat) : List Nat := if used.contains e then used.filter fun d => d != e else used ++ [e]
def b2 (b : Bool) : Int := if b then 1 else 0
theorem b2_t : b2 true = 1 := rfl
theorem b2_f : b2 false = 0 := rfl
/-- how many more used lines lead out of S than into it -/
def flow (N : Net) (S : Nat → Bool) (used : List Nat) : Int := (used.map fun e => b2 (S (tail N e)) - b2 (S (head N e))).sum
theorem flow_nil {N : Net} {S : Nat → Bool} : flow N S [] = 0 := rfl
theorem toggle_nodup {used : List Nat} {e : Nat} (h : used.Nodup) : (toggle used e).Nodup := by
  unfold toggle
  split
  · exact h.filter _
  · rename_i hc
    rw [List.nodup_append]
    refine ⟨h, by simp, fun a ha b hb e' => ?_⟩
    rw [List.mem_singleton.mp hb] at e'
    exact hc (by simpa using e' ▸ ha)
theorem mem_toggle_ne {used : List Nat} {e d : Nat} (h : d ≠ e) : d ∈ toggle used e ↔ d ∈ used := by
  unfold toggle
  split
  · simp [h]
  · simp [h]
theorem sum_filter_ne {g : Nat → Int} {e : Nat} : ∀ {l : List Nat}, l.Nodup → e ∈ l → ((l.filter fun d => d != e).map g).sum + g e = (l.map g).sum
  | [], _, h => by simp at h
  | a :: l, hn, hm => by
    obtain ⟨h1, h2⟩ := List.nodup_cons.mp hn
    by_cases e' : a = e
    · subst e'
      have : (a :: l).filter (fun d => d != a) = l := by
        rw [List.filter_cons, if_neg (by simp), List.filter_eq_self]
        intro d hd
        have : d ≠ a := fun z => h1 (z ▸ hd)
        simp [this]
      rw [this, List.map_cons, List.sum_cons]
      omega
    · have hm' : e ∈ l := by
        rcases List.mem_cons.mp hm with z | z
        · exact absurd z.symm e'
        · exact z
      have ih := sum_filter_ne (g := g) h2 hm'
      rw [List.filter_cons, if_pos (by simp [e']), List.map_cons, List.map_cons, List.sum_cons, List.sum_cons]
      omega
/-- one step of a way: from u to v -/
theorem flow_toggle {N : Net} {S : Nat → Bool} {used : List Nat} {u v e : Nat} (hn : used.Nodup) (h : (v, e) ∈ stepsFrom N u used) : flow N S (toggle used e) = flow N S used + b2 (S u) - b2 (S v) := by
  rcases mem_steps.mp h with ⟨h1, h2, h3, h4⟩ | ⟨h1, h2, h3, h4⟩
  · have : toggle used e = used ++ [e] := by
      unfold toggle
      rw [if_neg (by simpa using h4)]
    rw [this]
    unfold flow
    rw [List.map_append, List.sum_append]
    simp only [List.map_cons, List.map_nil, List.sum_cons, List.sum_nil, h2, h3]
    omega
  · have : toggle used e = used.filter fun d => d != e := by
      unfold toggle
      rw [if_pos (by simpa using h4)]
    rw [this]
    have q := sum_filter_ne (g := fun e => b2 (S (tail N e)) - b2 (S (head N e))) hn h4
    unfold flow
    simp only [h2, h3] at q
    omega
/-- the lines behind one more way -/
def withWay (used : List Nat) (way : List Nat) : List Nat := way.foldl toggle used
theorem withWay_nodup : ∀ {way used : List Nat}, used.Nodup → (withWay used way).Nodup
  | [], _, h => h
  | _ :: way, _, h => withWay_nodup (way := way) (toggle_nodup h)
theorem withWay_lt {m : Nat} : ∀ {way used : List Nat}, (∀ e ∈ used, e < m) → (∀ e ∈ way, e < m) → ∀ e ∈ withWay used way, e < m
  | [], _, h, _ => h
  | a :: way, used, h, h' => withWay_lt (way := way) (fun e he => by
      by_cases q : e = a
      · rw [q]
        exact h' a (List.mem_cons_self ..)
      · exact h e ((mem_toggle_ne q).mp he)) fun e he => h' e (List.mem_cons_of_mem _ he)
/-- a way's steps: from u to v by e, in the graph of the lines used AT FIRST; the lines apart -/
theorem steps_keep {N : Net} {used used' : List Nat} {u v e : Nat} (h : (v, e) ∈ stepsFrom N u used) (q : e ∈ used' ↔ e ∈ used) : (v, e) ∈ stepsFrom N u used' := by
  rcases mem_steps.mp h with ⟨h1, h2, h3, h4⟩ | ⟨h1, h2, h3, h4⟩
  · exact mem_steps.mpr (.inl ⟨h1, h2, h3, fun z => h4 (q.mp z)⟩)
  · exact mem_steps.mpr (.inr ⟨h1, h2, h3, q.mpr h4⟩)
theorem step_ends {N : Net} {used : List Nat} {u v e : Nat} (h : (v, e) ∈ stepsFrom N u used) : e < many N ∧ ((tail N e = u ∧ head N e = v) ∨ (head N e = u ∧ tail N e = v)) := by
  rcases mem_steps.mp h with ⟨h1, h2, h3, h4⟩ | ⟨h1, h2, h3, h4⟩
  · exact ⟨h1, .inl ⟨h2, h3⟩⟩
  · exact ⟨h1, .inr ⟨h2, h3⟩⟩
/-- the lines of a way back from v: each has both its ends among nodes found no later than v -/
theorem way_ends {N : Net} {used : List Nat} {f : Found} (g : Grown N used f) {v : Nat} {l : List Nat} (w : WayTo f v l) : v ∈ keys f → ∀ e ∈ l, e < many N ∧ (keys f).idxOf (tail N e) ≤ (keys f).idxOf v ∧ (keys f).idxOf (head N e) ≤ (keys f).idxOf v := by
  induction w with
  | stop h => intro _ e he; simp at he
  | @on v u e l h w ih =>
    intro hv d hd
    rcases g.look_at v hv with ⟨_, q⟩ | ⟨u', e', q1, q2, q3, q4⟩
    · rw [h] at q
      cases q
    · rw [h] at q1
      cases q1
      rcases List.mem_cons.mp hd with z | z
      · subst z
        obtain ⟨a, b⟩ := step_ends q3
        refine ⟨a, ?_⟩
        rcases b with ⟨b1, b2⟩ | ⟨b1, b2⟩ <;> rw [b1, b2] <;> omega
      · obtain ⟨a, b, c⟩ := ih q2 d z
        exact ⟨a, by omega, by omega⟩
/-- one more way: S gains one where 0 is in it and v isn't -/
theorem flow_way {N : Net} {used : List Nat} {f : Found} {S : Nat → Bool} (g : Grown N used f) {v : Nat} {l : List Nat} (w : WayTo f v l) : v ∈ keys f → ∀ used' : List Nat, used'.Nodup → (∀ e ∈ l, e ∈ used' ↔ e ∈ used) →
    flow N S (withWay used' l) = flow N S used' + b2 (S 0) - b2 (S v) := by
  induction w with
  | @stop v h =>
    intro hv used' _ _
    rcases g.look_at v hv with ⟨q, _⟩ | ⟨u', e', q1, _⟩
    · subst q
      show flow N S used' = _
      omega
    · rw [h] at q1
      cases q1
  | @on v u e l h w ih =>
    intro hv used' hn hk
    rcases g.look_at v hv with ⟨_, q⟩ | ⟨u', e', q1, q2, q3, q4⟩
    · rw [h] at q
      cases q
    · rw [h] at q1
      cases q1
      have hstep : (v, e) ∈ stepsFrom N u used' := steps_keep q3 (hk e (List.mem_cons_self ..))
      have hne : ∀ d ∈ l, d ≠ e := fun d hd z => by
        subst z
        obtain ⟨_, a, b⟩ := way_ends g w q2 d hd
        obtain ⟨_, c⟩ := step_ends q3
        rcases c with ⟨c1, c2⟩ | ⟨c1, c2⟩
        · rw [c2] at b
          omega
        · rw [c2] at a
          omega
      show flow N S (withWay (toggle used' e) l) = _
      rw [ih q2 (toggle used' e) (toggle_nodup hn) fun d hd => (mem_toggle_ne (hne d hd)).trans (hk d (List.mem_cons_of_mem _ hd)), flow_toggle hn hstep]
      omega
/-! ### the invariant: a flow of k from 0 to t -/
structure FlowOk (N : Net) (t k : Nat) (used : List Nat) : Prop where
  nodup : used.Nodup
  lt : ∀ e ∈ used, e < many N
  flow : ∀ S : Nat → Bool, S 0 = true → S t = false → flow N S used = (k : Int)
theorem flowOk_nil {N : Net} {t : Nat} : FlowOk N t 0 [] := ⟨List.nodup_nil, fun e h => by simp at h, fun S _ _ => rfl⟩
theorem FlowOk.way {N : Net} {t k : Nat} {used : List Nat} {f : Found} {l : List Nat} (F : FlowOk N t k used) (g : Grown N used f) (ht : t ∈ keys f) (w : WayTo f t l) : FlowOk N t (k + 1) (withWay used l) := by
  refine ⟨withWay_nodup F.nodup, withWay_lt F.lt fun e he => (way_ends g w ht e he).1, fun S h0 h1 => ?_⟩
  rw [flow_way g w ht used F.nodup (fun _ _ => Iff.rfl), F.flow S h0 h1, h0, h1]
  simp [b2]
theorem sum_le_filter {N : Net} {S : Nat → Bool} : ∀ (l : List Nat), (l.map fun e => b2 (S (tail N e)) - b2 (S (head N e))).sum ≤ ((l.filter fun e => S (tail N e) && !S (head N e)).length : Int)
  | [] => by simp
  | e :: l => by
    have ih := sum_le_filter (N := N) (S := S) l
    rw [List.map_cons, List.sum_cons, List.filter_cons]
    cases h1 : S (tail N e) <;> cases h2 : S (head N e) <;> simp [h1, h2, b2_t, b2_f] <;> omega
theorem FlowOk.le {N : Net} {t k : Nat} {used : List Nat} (F : FlowOk N t k used) {S : Nat → Bool} (h0 : S 0 = true) (h1 : S t = false) : k ≤ out N S := by
  have q := sum_le_filter (N := N) (S := S) used
  have e : (used.map fun e => b2 (S (tail N e)) - b2 (S (head N e))).sum = (k : Int) := F.flow S h0 h1
  rw [e] at q
  have : (used.filter fun e => S (tail N e) && !S (head N e)).length ≤ out N S := by
    unfold out
    exact nodup_le (F.nodup.filter _) fun x hx => by
      obtain ⟨a, b⟩ := List.mem_filter.mp hx
      exact List.mem_filter.mpr ⟨List.mem_range.mpr (F.lt x a), b⟩
  omega
/-- all that can be come to has been -/
def Closed (N : Net) (used : List Nat) (f : Found) : Prop := ∀ u ∈ keys f, ∀ v e, (v, e) ∈ stepsFrom N u used → v ∈ keys f
theorem sum_eq_filter {N : Net} {S : Nat → Bool} : ∀ (l : List Nat), (∀ e ∈ l, S (head N e) = true → S (tail N e) = true) → (l.map fun e => b2 (S (tail N e)) - b2 (S (head N e))).sum = ((l.filter fun e => S (tail N e) && !S (head N e)).length : Int)
  | [], _ => by simp
  | e :: l, h => by
    have ih := sum_eq_filter (N := N) (S := S) l fun d hd => h d (List.mem_cons_of_mem _ hd)
    have he := h e (List.mem_cons_self ..)
    rw [List.map_cons, List.sum_cons, List.filter_cons]
    cases h1 : S (tail N e) <;> cases h2 : S (head N e) <;> simp [b2_t, b2_f, h1, h2] at he ⊢ <;> omega
theorem FlowOk.end_ {N : Net} {t k : Nat} {used : List Nat} {f : Found} (F : FlowOk N t k used) (g : Grown N used f) (c : Closed N used f) (ht : t ∉ keys f) : k = out N fun v => (keys f).contains v := by
  have hS0 : (keys f).contains 0 = true := by simpa using g.zero
  have hSt : (keys f).contains t = false := by simpa using ht
  refine Nat.le_antisymm (F.le (S := fun v => (keys f).contains v) hS0 hSt) ?_
  have e1 := F.flow (fun v => (keys f).contains v) hS0 hSt
  have e2 : NM.flow N (fun v => (keys f).contains v) used = _ := sum_eq_filter (N := N) (S := fun v => (keys f).contains v) used fun e he hh => by
    have hh : head N e ∈ keys f := by simpa using hh
    simpa using c _ hh (tail N e) e (mem_steps.mpr (.inr ⟨F.lt e he, rfl, rfl, he⟩))
  have : out N (fun v => (keys f).contains v) ≤ (used.filter fun e => (keys f).contains (tail N e) && !(keys f).contains (head N e)).length := by
    unfold out
    refine nodup_le (List.nodup_range.filter _) fun x hx => ?_
    obtain ⟨a, b⟩ := List.mem_filter.mp hx
    refine List.mem_filter.mpr ⟨?_, b⟩
    rw [Bool.and_eq_true] at b
    have b1 : tail N x ∈ keys f := by simpa using b.1
    have b2 : head N x ∉ keys f := by simpa using b.2
    by_cases hu : x ∈ used
    · exact hu
    · exact absurd (c _ b1 (head N x) x (mem_steps.mpr (.inl ⟨List.mem_range.mp a, rfl, rfl, hu⟩))) b2
  omega
/-! ### the specification's least cut -/
theorem mask_of (S : Nat → Bool) : ∀ n, ∃ m, m < 2 ^ n ∧ ∀ i, i < n → m.testBit i = S i
  | 0 => ⟨0, by simp, fun i h => by omega⟩
  | n + 1 => by
    obtain ⟨m, hm, h⟩ := mask_of S n
    cases hS : S n with
    | false =>
      refine ⟨m, by rw [Nat.pow_succ]; omega, fun i hi => ?_⟩
      by_cases e : i = n
      · rw [e, hS]
        exact Nat.testBit_lt_two_pow hm
      · exact h i (by omega)
    | true =>
      refine ⟨m ||| 2 ^ n, Nat.or_lt_two_pow (by rw [Nat.pow_succ]; omega) (Nat.pow_lt_pow_right (by omega) (by omega)), fun i hi => ?_⟩
      rw [Nat.testBit_or, Nat.testBit_two_pow]
      by_cases e : i = n
      · subst e
        simp [hS]
      · have : ¬ n = i := fun z => e z.symm
        simp [this, h i (by omega)]
theorem out_congr {N : Net} (hN : NetOk N) {S T : Nat → Bool} (h : ∀ i, i < N.n → S i = T i) : out N S = out N T := by
  unfold out
  congr 1
  refine List.filter_congr fun e he => ?_
  have := hN e (List.mem_range.mp he)
  rw [h _ (by omega), h _ (by omega)]
theorem foldl_min_le : ∀ (l : List Nat) (a : Nat), l.foldl min a ≤ a ∧ ∀ x ∈ l, l.foldl min a ≤ x
  | [], a => ⟨Nat.le_refl _, fun x h => by simp at h⟩
  | y :: l, a => by
    obtain ⟨h1, h2⟩ := foldl_min_le l (min a y)
    refine ⟨Nat.le_trans h1 (Nat.min_le_left ..), fun x hx => ?_⟩
    rcases List.mem_cons.mp hx with e | e
    · subst e
      exact Nat.le_trans h1 (Nat.min_le_right ..)
    · exact h2 x e
theorem le_foldl_min {k : Nat} : ∀ (l : List Nat) (a : Nat), k ≤ a → (∀ x ∈ l, k ≤ x) → k ≤ l.foldl min a
  | [], _, h, _ => h
  | x :: l, a, h, hl => le_foldl_min l (min a x) (Nat.le_min.mpr ⟨h, hl x (List.mem_cons_self ..)⟩) fun y hy => hl y (List.mem_cons_of_mem _ hy)
theorem least_eq {k : Nat} {l : List Nat} (hm : k ∈ l) (hl : ∀ x ∈ l, k ≤ x) : least l = k := by
  unfold least
  refine Nat.le_antisymm ((foldl_min_le l _).2 k hm) (le_foldl_min l _ ?_ hl)
  cases l with
  | nil => simp at hm
  | cons x r => exact hl x (List.mem_cons_self ..)
theorem cut_eq {N : Net} {t k : Nat} {used : List Nat} {f : Found} (hN : NetOk N) (ht : t < N.n) (F : FlowOk N t k used) (g : Grown N used f) (c : Closed N used f) (hk : t ∉ keys f) : k = cut N t := by
  have h0 : 0 < N.n := by omega
  symm
  unfold cut
  refine least_eq ?_ fun x hx => ?_
  · obtain ⟨m, hm, e⟩ := mask_of (fun v => (keys f).contains v) N.n
    refine List.mem_map.mpr ⟨m, List.mem_filter.mpr ⟨List.mem_range.mpr hm, ?_⟩, ?_⟩
    · rw [e 0 h0, e t ht]
      have h1 : (keys f).contains 0 = true := by simpa using g.zero
      have h2 : (keys f).contains t = false := by simpa using hk
      rw [h1, h2]
      rfl
    · rw [out_congr hN e]
      exact (F.end_ g c hk).symm
  · obtain ⟨m, hm, rfl⟩ := List.mem_map.mp hx
    have q := (List.mem_filter.mp hm).2
    rw [Bool.and_eq_true] at q
    exact F.le q.1 (by simpa using q.2)
theorem FlowOk.most {N : Net} {t k : Nat} {used : List Nat} (F : FlowOk N t k used) (h : t ≠ 0) : k ≤ many N := by
  refine Nat.le_trans (F.le (S := fun v => v == 0) rfl (by simp [h])) ?_
  unfold out
  exact Nat.le_trans (List.length_filter_le ..) (by simp)
end NM
namespace NM
open Rd03 (Net tail head many into Mix entry carries vec)
theorem carries_stable {N : Net} (hN : NetOk N) {p h : Nat} {K : Mix} : ∀ (k k' e : Nat), tail N e < k → tail N e < k' → carries N p h K k e = carries N p h K k' e
  | 0, _, _, h1, _ => by omega
  | _ + 1, 0, _, _, h2 => by omega
  | k + 1, k' + 1, e, h1, h2 => by
    unfold carries
    by_cases h0 : tail N e = 0
    · rw [if_pos h0, if_pos h0]
    · rw [if_neg h0, if_neg h0]
      refine List.map_congr_left fun i _ => ?_
      congr 2
      refine List.map_congr_left fun d hd => ?_
      obtain ⟨hd1, hd2⟩ := mem_into.mp hd
      have := hN d hd1
      rw [carries_stable hN k k' d (by omega) (by omega)]
theorem vec_zero {N : Net} {p h : Nat} {K : Mix} {e : Nat} (h0 : tail N e = 0) : vec N p h K e = (List.range h).map fun i => entry K e i % p := by
  unfold vec carries
  rw [if_pos h0]
theorem vec_on {N : Net} (hN : NetOk N) {p h : Nat} {K : Mix} {e : Nat} (he : e < many N) (h0 : tail N e ≠ 0) :
    vec N p h K e = (List.range h).map fun i => ((into N (tail N e)).map fun d => entry K e d * (vec N p h K d).getD i 0).sum % p := by
  have hte := hN e he
  have e1 : vec N p h K e = (List.range h).map fun i => ((into N (tail N e)).map fun d => entry K e d * (carries N p h K N.n d).getD i 0).sum % p := by
    show (if tail N e = 0 then _ else _) = _
    rw [if_neg h0]
  rw [e1]
  refine List.map_congr_left fun i _ => ?_
  congr 2
  refine List.map_congr_left fun d hd => ?_
  obtain ⟨hd1, hd2⟩ := mem_into.mp hd
  have := hN d hd1
  rw [carries_stable hN N.n (N.n + 1) d (by omega) (by omega)]
  rfl
theorem vec_len {N : Net} {p h : Nat} {K : Mix} {e : Nat} : (vec N p h K e).length = h := by
  unfold vec carries
  split <;> simp
theorem vec_ok {N : Net} {p h : Nat} {K : Mix} {e : Nat} (hp : 0 < p) : RowOk p h (vec N p h K e) := by
  refine ⟨vec_len, fun x hx => ?_⟩
  unfold vec carries at hx
  split at hx
  · obtain ⟨i, _, rfl⟩ := List.mem_map.mp hx
    exact Nat.mod_lt _ hp
  · obtain ⟨i, _, rfl⟩ := List.mem_map.mp hx
    exact Nat.mod_lt _ hp
/-- added, over rows told by their places -/
theorem added_range {p h k : Nat} {A : Nat → Nat} {b : List Nat} (hb : b.length = h) : added p ((List.range h).map fun i => A i % p) b k = (List.range h).map fun i => (A i + k * b.getD i 0) % p := by
  unfold added
  refine List.ext_getElem (by simp [hb]) fun i h1 h2 => ?_
  have hi : i < h := by simpa [hb] using h1
  rw [List.getElem_zipWith]
  simp only [List.getElem_map, List.getElem_range]
  rw [getD_in _ (by omega), Nat.mod_add_mod]
theorem fold_added {p h : Nat} {g : Nat → Nat} {v : Nat → List Nat} : ∀ (l : List Nat) (A : Nat → Nat), (∀ d ∈ l, (v d).length = h) →
    l.foldl (fun f d => added p f (v d) (g d)) ((List.range h).map fun i => A i % p) = (List.range h).map fun i => (A i + (l.map fun d => g d * (v d).getD i 0).sum) % p
  | [], A, _ => by simp
  | d :: l, A, hl => by
    rw [List.foldl_cons, added_range (hl d (List.mem_cons_self ..)), fold_added l (fun i => A i + g d * (v d).getD i 0) fun x hx => hl x (List.mem_cons_of_mem _ hx)]
    refine List.map_congr_left fun i _ => ?_
    rw [List.map_cons, List.sum_cons, Nat.add_assoc]
theorem rep_range (p h : Nat) : List.replicate h 0 = (List.range h).map fun _ => 0 % p := by
  refine List.ext_getElem (by simp) fun i h1 h2 => by simp
/-- the program's vector of a line that is not from node 0 -/
theorem vec_fold {N : Net} (hN : NetOk N) {p h : Nat} {K : Mix} {e : Nat} (he : e < many N) (h0 : tail N e ≠ 0) :
    vec N p h K e = (into N (tail N e)).foldl (fun f d => added p f (vec N p h K d) (entry K e d)) (List.replicate h 0) := by
  rw [vec_on hN he h0, rep_range p h, fold_added (A := fun _ => 0) _ fun d _ => vec_len]
  refine List.map_congr_left fun i _ => ?_
  rw [Nat.zero_add]

/-! ## the state -/
structure Good (s : Rd03.Abs) : Prop where
  n1 : 1 ≤ s.net.n
  n16 : s.net.n ≤ 16
  pr : Rd03.prime s.p = true
  p251 : s.p ≤ 251
  h1 : 1 ≤ s.h
  h8 : s.h ≤ 8
  m40 : many s.net ≤ 40
  net : NetOk s.net
  mlen : s.mix.length = many s.net
  rows : ∀ e, e < many s.net → (s.mix.getD e []).length = 40
  lt : ∀ e d, entry s.mix e d < s.p
theorem Good.p2 {s : Rd03.Abs} (g : Good s) : 2 ≤ s.p := (prime_iff.mp g.pr).1
theorem Good.inv {s : Rd03.Abs} (g : Good s) : Inv1 s.p := inv_of_prime g.pr
theorem good_fresh {n p h : Nat} (h1 : 1 ≤ n) (h2 : n ≤ 16) (h3 : Rd03.prime p = true) (h4 : p ≤ 251) (h5 : 1 ≤ h) (h6 : h ≤ 8) : Good { net := ⟨n, []⟩, p := p, h := h, mix := [] } :=
  ⟨h1, h2, h3, h4, h5, h6, by simp [many], fun e he => by simp [many] at he, by simp [many], fun e he => by simp [many] at he, fun e d => by
    have := (prime_iff.mp h3).1
    simp [entry]
    omega⟩
theorem good_start : Good {} := good_fresh (by decide) (by decide) (by decide) (by decide) (by decide) (by decide)
theorem entry_snoc {K : Mix} {e d : Nat} : entry (K ++ [Rd03.blank]) e d = entry K e d := by
  unfold entry
  by_cases h : e < K.length
  · have : (K ++ [Rd03.blank]).getD e [] = K.getD e [] := by
      rw [List.getD_eq_getElem?_getD, List.getD_eq_getElem?_getD, List.getElem?_append_left h]
    rw [this]
  · have h1 : K.getD e [] = [] := getD_out _ (by omega)
    rw [h1]
    by_cases h2 : e = K.length
    · have : (K ++ [Rd03.blank]).getD e [] = Rd03.blank := by simp [List.getD, h2]
      rw [this]
      unfold Rd03.blank
      rw [getD_rep0]
      simp
    · have : (K ++ [Rd03.blank]).getD e [] = [] := getD_out _ (by simp; omega)
      rw [this]
theorem Good.line {s : Rd03.Abs} (g : Good s) {u v : Nat} (hu : u < v) (hv : v < s.net.n) (hm : many s.net < 40) :
    Good { s with net := { s.net with lines := s.net.lines ++ [(u, v)] }, mix := s.mix ++ [Rd03.blank] } := by
  have hmany : many { s.net with lines := s.net.lines ++ [(u, v)] } = many s.net + 1 := by simp [many]
  refine ⟨g.n1, g.n16, g.pr, g.p251, g.h1, g.h8, ?_, ?_, ?_, ?_, ?_⟩
  · show many { s.net with lines := s.net.lines ++ [(u, v)] } ≤ 40
    rw [hmany]
    omega
  · intro e he
    by_cases h : e < many s.net
    · have := g.net e h
      have e1 : (s.net.lines ++ [(u, v)]).getD e (0, 0) = s.net.lines.getD e (0, 0) := by
        rw [List.getD_eq_getElem?_getD, List.getD_eq_getElem?_getD, List.getElem?_append_left h]
      unfold tail head at *
      simp only [e1]
      exact this
    · have he' : e < many s.net + 1 := by rw [← hmany]; exact he
      have : e = s.net.lines.length := by unfold many at h he'; omega
      have e1 : (s.net.lines ++ [(u, v)]).getD e (0, 0) = (u, v) := by simp [List.getD, this]
      unfold tail head
      simp only [e1]
      exact ⟨hu, hv⟩
  · show (s.mix ++ [Rd03.blank]).length = many { s.net with lines := s.net.lines ++ [(u, v)] }
    rw [hmany, List.length_append, g.mlen]
    rfl
  · intro e he
    have he' : e < many s.net + 1 := by rw [← hmany]; exact he
    show ((s.mix ++ [Rd03.blank]).getD e []).length = 40
    by_cases h : e < many s.net
    · have : (s.mix ++ [Rd03.blank]).getD e [] = s.mix.getD e [] := by
        rw [List.getD_eq_getElem?_getD, List.getD_eq_getElem?_getD, List.getElem?_append_left (by rw [g.mlen]; exact h)]
      rw [this]
      exact g.rows e h
    · have : e = s.mix.length := by rw [g.mlen]; omega
      have : (s.mix ++ [Rd03.blank]).getD e [] = Rd03.blank := by simp [List.getD, this]
      rw [this]
      simp [Rd03.blank]
  · intro e d
    show entry (s.mix ++ [Rd03.blank]) e d < s.p
    rw [entry_snoc]
    exact g.lt e d
theorem entry_set {K : Mix} {e d c e' d' : Nat} (he : e < K.length) (hd : d < (K.getD e []).length) : entry (K.set e ((K.getD e []).set d c)) e' d' = if e' = e ∧ d' = d then c else entry K e' d' := by
  unfold entry
  by_cases h : e' = e
  · subst h
    have : (K.set e' ((K.getD e' []).set d c)).getD e' [] = (K.getD e' []).set d c := by simp [List.getD, he]
    rw [this]
    by_cases h2 : d' = d
    · subst h2
      rw [if_pos ⟨rfl, rfl⟩, getD_in _ (by simpa using hd)]
      simp
    · rw [if_neg (by simp [h2])]
      have : ¬ d = d' := fun z => h2 z.symm
      simp [List.getD_eq_getElem?_getD, List.getElem?_set, this]
  · rw [if_neg (by simp [h])]
    have : ¬ e = e' := fun z => h z.symm
    simp [List.getD_eq_getElem?_getD, List.getElem?_set, this]
theorem Good.mix {s : Rd03.Abs} (g : Good s) {e d c : Nat} (he : e < many s.net) (hd : d < 40) (hc : c < s.p) : Good { s with mix := s.mix.set e ((s.mix.getD e []).set d c) } := by
  refine ⟨g.n1, g.n16, g.pr, g.p251, g.h1, g.h8, g.m40, g.net, ?_, ?_, ?_⟩
  · show (s.mix.set e ((s.mix.getD e []).set d c)).length = _
    rw [List.length_set]
    exact g.mlen
  · intro e' he'
    show ((s.mix.set e ((s.mix.getD e []).set d c)).getD e' []).length = 40
    by_cases h : e' = e
    · subst h
      have hel : e' < s.mix.length := by rw [g.mlen]; exact he
      have : (s.mix.set e' ((s.mix.getD e' []).set d c)).getD e' [] = (s.mix.getD e' []).set d c := by simp [List.getD, hel]
      rw [this, List.length_set]
      exact g.rows e' he
    · have : ¬ e = e' := fun z => h z.symm
      have : (s.mix.set e ((s.mix.getD e []).set d c)).getD e' [] = s.mix.getD e' [] := by simp [List.getD_eq_getElem?_getD, List.getElem?_set, this]
      rw [this]
      exact g.rows e' he'
  · intro e' d'
    show entry (s.mix.set e ((s.mix.getD e []).set d c)) e' d' < s.p
    rw [entry_set (by rw [g.mlen]; exact he) (by rw [g.rows e he]; exact hd)]
    split
    · exact hc
    · exact g.lt e' d'
end NM
namespace NM
/-! ## calls in one list -/
def numsLen (w : Nat) : Nat := ([0, 3, 2, 3, 2, 1, 1, 1] : List Nat).getD w 0
structure CallAt (l : List Int) (i w : Nat) (nums row : List Int) (j : Nat) : Prop where
  w8 : w < 8
  word : l[i]? = some (w : Int)
  nums : nums = (l.drop (i + 1)).take (numsLen w)
  most : i + 1 + numsLen w ≤ l.length
  no : w ≠ 7 → row = [] ∧ j = i + 1 + numsLen w
  yes : w = 7 → ∃ m : Nat, l[i + 2]? = some (m : Int) ∧ row = (l.drop (i + 3)).take m ∧ j = i + 3 + m ∧ j ≤ l.length
/-- a call by its word, numbers, row -/
inductive CallIs : Nat → List Int → List Int → Rd03.Call → Prop
  | init : CallIs 0 [] [] .init
  | size (n p h : Int) : CallIs 1 [n, p, h] [] (.size n p h)
  | line (u v : Int) : CallIs 2 [u, v] [] (.line u v)
  | mix (e d c : Int) : CallIs 3 [e, d, c] [] (.mix e d c)
  | vector (e most : Int) : CallIs 4 [e, most] [] (.vector e most)
  | rank (t : Int) : CallIs 5 [t] [] (.rank t)
  | cut (t : Int) : CallIs 6 [t] [] (.cut t)
  | send (e : Int) (row : List Int) : (∀ z ∈ row, 0 ≤ z ∧ z ≤ 255) → row.length ≤ 8 → CallIs 7 [e] row (.send e (Rd03Neutral.natsOf row) row.length)
def ansOf (a : Rd03.Ans) : List Int := a.value :: a.numbers.map fun (b : Nat) => (b : Int)
def rawOf (w : Nat) (nums row : List Int) : List (List Int) := if w = 7 then [(w : Int) :: nums, row] else [(w : Int) :: nums]
theorem take_one {α : Type} : ∀ {l : List α}, 1 ≤ l.length → ∃ a, l.take 1 = [a]
  | a :: _, _ => ⟨a, rfl⟩
theorem take_two {α : Type} : ∀ {l : List α}, 2 ≤ l.length → ∃ a b, l.take 2 = [a, b]
  | [_], h => by simp at h
  | a :: b :: _, _ => ⟨a, b, rfl⟩
theorem take_three {α : Type} : ∀ {l : List α}, 3 ≤ l.length → ∃ a b c, l.take 3 = [a, b, c]
  | [_], h => by simp at h
  | [_, _], h => by simp at h
  | a :: b :: c :: _, _ => ⟨a, b, c, rfl⟩
theorem shape_is {p : Int} {n k : Nat} (h : PyRd03.shape p = some (n, k)) : ∃ w : Nat, w < 8 ∧ p = (w : Int) ∧ n = numsLen w ∧ k = if w = 7 then 1 else 0 := by
  unfold PyRd03.shape at h
  repeat' split at h
  all_goals first
    | (cases h; done)
    | (rename_i e; cases h; subst e; first | exact ⟨0, by decide, rfl, rfl, rfl⟩ | exact ⟨1, by decide, rfl, rfl, rfl⟩ | exact ⟨2, by decide, rfl, rfl, rfl⟩ | exact ⟨3, by decide, rfl, rfl, rfl⟩ | exact ⟨4, by decide, rfl, rfl, rfl⟩ | exact ⟨5, by decide, rfl, rfl, rfl⟩ | exact ⟨6, by decide, rfl, rfl, rfl⟩ | exact ⟨7, by decide, rfl, rfl, rfl⟩)
theorem calls_at {l : List Int} {i f : Nat} {rest : List (List (List Int))} (h : PyFlat.calls PyRd03.shape f (l.drop i) = some rest) (hi : i < l.length) :
    ∃ (w : Nat) (nums row : List Int) (j f' : Nat) (rest' : List (List (List Int))), CallAt l i w nums row j ∧ i < j ∧ j ≤ l.length ∧ PyFlat.calls PyRd03.shape f' (l.drop j) = some rest' ∧ rest = rawOf w nums row :: rest' := by
  obtain ⟨p, hp⟩ : ∃ p, l[i]? = some p := ⟨l[i], by simp [hi]⟩
  have hd : l.drop i = p :: l.drop (i + 1) := by
    rw [List.drop_eq_getElem_cons hi]
    congr 1
    rw [List.getElem?_eq_getElem hi] at hp
    exact Option.some.inj hp
  rw [hd] at h
  cases f with
  | zero => simp [PyFlat.calls] at h
  | succ f =>
    simp only [PyFlat.calls] at h
    cases hc : PyFlat.call PyRd03.shape (p :: l.drop (i + 1)) with
    | none => rw [hc] at h; cases h
    | some ct =>
      obtain ⟨c, t⟩ := ct
      rw [hc] at h
      simp only [] at h
      cases hr : PyFlat.calls PyRd03.shape f t with
      | none => rw [hr] at h; cases h
      | some rest' =>
        rw [hr] at h
        have h : c :: rest' = rest := Option.some.inj h
        simp only [PyFlat.call] at hc
        cases hs : PyRd03.shape p with
        | none => rw [hs] at hc; cases hc
        | some nk =>
          obtain ⟨n, k⟩ := nk
          rw [hs] at hc
          simp only [] at hc
          obtain ⟨w, hw8, rfl, rfl, rfl⟩ := shape_is hs
          by_cases hlen : (l.drop (i + 1)).length < numsLen w
          · rw [if_pos hlen] at hc; cases hc
          · rw [if_neg hlen] at hc
            have hm : i + 1 + numsLen w ≤ l.length := by
              rw [List.length_drop] at hlen
              omega
            by_cases h7 : w = 7
            · subst h7
              have n1 : numsLen 7 = 1 := rfl
              rw [n1] at hc hm
              simp only [if_true, PyFlat.rows] at hc
              rw [List.drop_drop] at hc
              cases hrow : PyFlat.row (l.drop (i + 1 + 1)) with
              | none => rw [hrow] at hc; cases hc
              | some xs =>
                obtain ⟨x, s⟩ := xs
                rw [hrow] at hc
                have hc := Option.some.inj hc
                have hc1 := (Prod.mk.inj hc).1
                have hc2 : s = t := (Prod.mk.inj hc).2
                subst hc2
                -- the row
                by_cases hi2 : i + 2 < l.length
                · have hd2 : l.drop (i + 1 + 1) = l[i + 2] :: l.drop (i + 3) := List.drop_eq_getElem_cons hi2
                  rw [hd2] at hrow
                  simp only [PyFlat.row] at hrow
                  by_cases hz : 0 ≤ l[i + 2] ∧ l[i + 2].toNat ≤ (l.drop (i + 3)).length
                  · rw [if_pos hz] at hrow
                    have hrow := Option.some.inj hrow
                    have hx : (l.drop (i + 3)).take l[i + 2].toNat = x := (Prod.mk.inj hrow).1
                    have hs' : (l.drop (i + 3)).drop l[i + 2].toNat = s := (Prod.mk.inj hrow).2
                    have hz2 := hz.2
                    rw [List.length_drop] at hz2
                    refine ⟨7, (l.drop (i + 1)).take 1, x, i + 3 + l[i + 2].toNat, f, rest', ⟨by decide, hp, rfl, hm, fun q => absurd rfl q, fun _ => ⟨l[i + 2].toNat, ?_, hx.symm, rfl, by omega⟩⟩, by omega, by omega, ?_, ?_⟩
                    · rw [List.getElem?_eq_getElem hi2, Int.toNat_of_nonneg hz.1]
                    · rw [← hs', List.drop_drop] at hr
                      exact hr
                    · rw [← h, ← hc1]
                      rfl
                  · rw [if_neg hz] at hrow
                    cases hrow
                · rw [List.drop_eq_nil_of_le (by omega)] at hrow
                  simp [PyFlat.row] at hrow
            · rw [if_neg h7] at hc
              simp only [PyFlat.rows] at hc
              have hc := Option.some.inj hc
              have hc1 := (Prod.mk.inj hc).1
              have hc2 : (l.drop (i + 1)).drop (numsLen w) = t := (Prod.mk.inj hc).2
              rw [List.drop_drop] at hc2
              refine ⟨w, (l.drop (i + 1)).take (numsLen w), [], i + 1 + numsLen w, f, rest', ⟨hw8, hp, rfl, hm, fun _ => ⟨rfl, rfl⟩, fun q => absurd q h7⟩, by omega, hm, ?_, ?_⟩
              · rw [hc2]
                exact hr
              · rw [← h, ← hc1]
                simp [rawOf, h7]
/-- what the call at a place is -/
theorem call_is {l : List Int} {i w : Nat} {nums row : List Int} {j : Nat} (C : CallAt l i w nums row j) (hb : PyInside.call PyRd03.bound (rawOf w nums row) = true) :
    ∃ x, CallIs w nums row x ∧ Rd03Neutral.callOf (PyRd03.whole (rawOf w nums row)) = some x := by
  have hlen : numsLen w ≤ (l.drop (i + 1)).length := by
    rw [List.length_drop]
    have := C.most
    omega
  have hn := C.nums
  have h8 := C.w8
  match w, h8 with
  | 0, _ =>
    obtain ⟨rfl, _⟩ := C.no (by decide)
    have : nums = [] := hn
    subst this
    exact ⟨_, .init, rfl⟩
  | 1, _ =>
    obtain ⟨rfl, _⟩ := C.no (by decide)
    obtain ⟨a, b, c, e⟩ := take_three (l := l.drop (i + 1)) hlen
    have : nums = [a, b, c] := hn.trans e
    subst this
    exact ⟨_, .size a b c, rfl⟩
  | 2, _ =>
    obtain ⟨rfl, _⟩ := C.no (by decide)
    obtain ⟨a, b, e⟩ := take_two (l := l.drop (i + 1)) hlen
    have : nums = [a, b] := hn.trans e
    subst this
    exact ⟨_, .line a b, rfl⟩
  | 3, _ =>
    obtain ⟨rfl, _⟩ := C.no (by decide)
    obtain ⟨a, b, c, e⟩ := take_three (l := l.drop (i + 1)) hlen
    have : nums = [a, b, c] := hn.trans e
    subst this
    exact ⟨_, .mix a b c, rfl⟩
  | 4, _ =>
    obtain ⟨rfl, _⟩ := C.no (by decide)
    obtain ⟨a, b, e⟩ := take_two (l := l.drop (i + 1)) hlen
    have : nums = [a, b] := hn.trans e
    subst this
    exact ⟨_, .vector a b, rfl⟩
  | 5, _ =>
    obtain ⟨rfl, _⟩ := C.no (by decide)
    obtain ⟨a, e⟩ := take_one (l := l.drop (i + 1)) hlen
    have : nums = [a] := hn.trans e
    subst this
    exact ⟨_, .rank a, rfl⟩
  | 6, _ =>
    obtain ⟨rfl, _⟩ := C.no (by decide)
    obtain ⟨a, e⟩ := take_one (l := l.drop (i + 1)) hlen
    have : nums = [a] := hn.trans e
    subst this
    exact ⟨_, .cut a, rfl⟩
  | 7, _ =>
    obtain ⟨a, e⟩ := take_one (l := l.drop (i + 1)) hlen
    have : nums = [a] := hn.trans e
    subst this
    have hb : (PyInside.each [(-2147483648, 2147483647)] [a] && PyInside.lists [(0, 255, 0, 8)] [row]) = true := hb
    rw [Bool.and_eq_true] at hb
    have hb2 : ((decide (0 ≤ row.length) && decide (row.length ≤ 8) && row.all (PyInside.within 0 255)) && true) = true := hb.2
    simp only [Bool.and_eq_true, decide_eq_true_eq, List.all_eq_true, PyInside.within] at hb2
    exact ⟨_, .send a row (fun z hz => by simpa using hb2.1.2 z hz) hb2.1.1.2, rfl⟩
theorem step_is {s : Rd03.Abs} {w : Nat} {nums row : List Int} {x : Rd03.Call} (h : Rd03Neutral.callOf (PyRd03.whole (rawOf w nums row)) = some x) :
    Rd03Neutral.step s (PyRd03.whole (rawOf w nums row)) = ((Rd03.does s x).1, ansOf (Rd03.does s x).2) := by
  unfold Rd03Neutral.step
  rw [h]
  rfl
end NM
namespace NM
set_option maxRecDepth 100000
set_option maxHeartbeats 4000000
open PySem L2
/-! ### the text by places -/
def top (i : Nat) : Stmt := PySem.Challenge.pw_netmix_s01_answers.main.body.getD i (.Pass ⟨0, 0, 0, 0⟩)
abbrev s_steps_from : Stmt := top 1
abbrev s_reached : Stmt := top 2
abbrev s_way_to : Stmt := top 3
abbrev s_with_way : Stmt := top 4
abbrev s_node_cut : Stmt := top 5
abbrev s_Line__init_ : Stmt := inClass (top 10) 0
abbrev s_Line_amount : Stmt := inClass (top 10) 1
abbrev s_Net__init_ : Stmt := inClass (top 11) 0
abbrev s_Net_has_node : Stmt := inClass (top 11) 1
abbrev s_Net_has_line : Stmt := inClass (top 11) 2
abbrev s_Net_lines_into : Stmt := inClass (top 11) 3
abbrev s_Net_lines_from : Stmt := inClass (top 11) 4
abbrev s_Net_is_part : Stmt := inClass (top 11) 5
abbrev s_is_prime : Stmt := top 15
abbrev s_inverse_of : Stmt := top 16
abbrev s_added : Stmt := top 17
abbrev s_vector_from_messages : Stmt := top 19
abbrev s_vector_from_lines : Stmt := top 20
abbrev s_all_vectors : Stmt := top 21
abbrev s_vector_of : Stmt := top 22
abbrev s_carried : Stmt := top 23
abbrev s_first_place : Stmt := top 24
abbrev s_lessened : Stmt := top 25
abbrev s_rank_of : Stmt := top 26
abbrev s_node_rank : Stmt := top 27
abbrev s_is_size : Stmt := top 41
abbrev s_put_line : Stmt := top 42
abbrev s_mix : Stmt := top 43
abbrev s_tell_vector : Stmt := top 44
abbrev s_tell_rank : Stmt := top 45
abbrev s_tell_cut : Stmt := top 46
abbrev s_send : Stmt := top 47
abbrev s_answered : Stmt := top 48
abbrev s_Desk__init_ : Stmt := inClass (top 49) 0
abbrev s_Desk_done : Stmt := inClass (top 49) 1
abbrev s_call_at : Stmt := top 50
abbrev s_answers : Stmt := top 51
theorem sc_steps_from : FnScope ["net", "t", "used", "found", "e"] ["net", "t", "used"] (defScope s_steps_from) := ⟨rfl, rfl, rfl, by decide +kernel, rfl, by decide +kernel, by decide +kernel⟩
theorem sc_reached : FnScope ["net", "used", "found", "waiting", "here", "there", "e"] ["net", "used"] (defScope s_reached) := ⟨rfl, rfl, rfl, by decide +kernel, rfl, by decide +kernel, by decide +kernel⟩
theorem sc_way_to : FnScope ["steps", "t", "found", "e"] ["steps", "t"] (defScope s_way_to) := ⟨rfl, rfl, rfl, by decide +kernel, rfl, by decide +kernel, by decide +kernel⟩
theorem sc_with_way : FnScope ["used", "way", "found", "e"] ["used", "way"] (defScope s_with_way) := ⟨rfl, rfl, rfl, by decide +kernel, rfl, by decide +kernel, by decide +kernel⟩
theorem sc_node_cut : FnScope ["net", "t", "used", "many", "steps"] ["net", "t"] (defScope s_node_cut) := ⟨rfl, rfl, rfl, by decide +kernel, rfl, by decide +kernel, by decide +kernel⟩
theorem sc_Line__init_ : FnScope ["self", "start", "goal"] ["self", "start", "goal"] (defScope s_Line__init_) := ⟨rfl, rfl, rfl, by decide +kernel, rfl, by decide +kernel, by decide +kernel⟩
theorem sc_Line_amount : FnScope ["self", "d"] ["self", "d"] (defScope s_Line_amount) := ⟨rfl, rfl, rfl, by decide +kernel, rfl, by decide +kernel, by decide +kernel⟩
theorem sc_Net__init_ : FnScope ["self", "nodes", "p", "messages"] ["self", "nodes", "p", "messages"] (defScope s_Net__init_) := ⟨rfl, rfl, rfl, by decide +kernel, rfl, by decide +kernel, by decide +kernel⟩
theorem sc_Net_has_node : FnScope ["self", "t"] ["self", "t"] (defScope s_Net_has_node) := ⟨rfl, rfl, rfl, by decide +kernel, rfl, by decide +kernel, by decide +kernel⟩
theorem sc_Net_has_line : FnScope ["self", "e"] ["self", "e"] (defScope s_Net_has_line) := ⟨rfl, rfl, rfl, by decide +kernel, rfl, by decide +kernel, by decide +kernel⟩
theorem sc_Net_lines_into : FnScope ["self", "t", "e", "line"] ["self", "t"] (defScope s_Net_lines_into) := ⟨rfl, rfl, rfl, by decide +kernel, rfl, by decide +kernel, by decide +kernel⟩
theorem sc_Net_lines_from : FnScope ["self", "t", "e", "line"] ["self", "t"] (defScope s_Net_lines_from) := ⟨rfl, rfl, rfl, by decide +kernel, rfl, by decide +kernel, by decide +kernel⟩
theorem sc_Net_is_part : FnScope ["self", "e", "d", "start"] ["self", "e", "d"] (defScope s_Net_is_part) := ⟨rfl, rfl, rfl, by decide +kernel, rfl, by decide +kernel, by decide +kernel⟩
theorem sc_is_prime : FnScope ["number", "factor"] ["number"] (defScope s_is_prime) := ⟨rfl, rfl, rfl, by decide +kernel, rfl, by decide +kernel, by decide +kernel⟩
theorem sc_inverse_of : FnScope ["number", "p", "other"] ["number", "p"] (defScope s_inverse_of) := ⟨rfl, rfl, rfl, by decide +kernel, rfl, by decide +kernel, by decide +kernel⟩
theorem sc_added : FnScope ["one", "other", "times", "p", "a", "b"] ["one", "other", "times", "p"] (defScope s_added) := ⟨rfl, rfl, rfl, by decide +kernel, rfl, by decide +kernel, by decide +kernel⟩
theorem sc_vector_from_messages : FnScope ["net", "line", "d"] ["net", "line"] (defScope s_vector_from_messages) := ⟨rfl, rfl, rfl, by decide +kernel, rfl, by decide +kernel, by decide +kernel⟩
theorem sc_vector_from_lines : FnScope ["net", "line", "told", "found", "d"] ["net", "line", "told"] (defScope s_vector_from_lines) := ⟨rfl, rfl, rfl, by decide +kernel, rfl, by decide +kernel, by decide +kernel⟩
theorem sc_all_vectors : FnScope ["net", "told", "t", "e"] ["net"] (defScope s_all_vectors) := ⟨rfl, rfl, rfl, by decide +kernel, rfl, by decide +kernel, by decide +kernel⟩
theorem sc_vector_of : FnScope ["net", "e"] ["net", "e"] (defScope s_vector_of) := ⟨rfl, rfl, rfl, by decide +kernel, rfl, by decide +kernel, by decide +kernel⟩
theorem sc_carried : FnScope ["net", "e", "messages", "times", "message"] ["net", "e", "messages"] (defScope s_carried) := ⟨rfl, rfl, rfl, by decide +kernel, rfl, by decide +kernel, by decide +kernel⟩
theorem sc_first_place : FnScope ["row", "place", "number"] ["row"] (defScope s_first_place) := ⟨rfl, rfl, rfl, by decide +kernel, rfl, by decide +kernel, by decide +kernel⟩
theorem sc_lessened : FnScope ["row", "steps", "p", "place", "step"] ["row", "steps", "p"] (defScope s_lessened) := ⟨rfl, rfl, rfl, by decide +kernel, rfl, by decide +kernel, by decide +kernel⟩
theorem sc_rank_of : FnScope ["rows", "p", "steps", "row", "left", "place", "nothing"] ["rows", "p"] (defScope s_rank_of) := ⟨rfl, rfl, rfl, by decide +kernel, rfl, by decide +kernel, by decide +kernel⟩
theorem sc_node_rank : FnScope ["net", "t", "told", "e"] ["net", "t"] (defScope s_node_rank) := ⟨rfl, rfl, rfl, by decide +kernel, rfl, by decide +kernel, by decide +kernel⟩
theorem sc_is_size : FnScope ["n", "p", "h"] ["n", "p", "h"] (defScope s_is_size) := ⟨rfl, rfl, rfl, by decide +kernel, rfl, by decide +kernel, by decide +kernel⟩
theorem sc_put_line : FnScope ["net", "u", "v"] ["net", "u", "v"] (defScope s_put_line) := ⟨rfl, rfl, rfl, by decide +kernel, rfl, by decide +kernel, by decide +kernel⟩
theorem sc_mix : FnScope ["net", "e", "d", "c"] ["net", "e", "d", "c"] (defScope s_mix) := ⟨rfl, rfl, rfl, by decide +kernel, rfl, by decide +kernel, by decide +kernel⟩
theorem sc_tell_vector : FnScope ["net", "e", "most"] ["net", "e", "most"] (defScope s_tell_vector) := ⟨rfl, rfl, rfl, by decide +kernel, rfl, by decide +kernel, by decide +kernel⟩
theorem sc_tell_rank : FnScope ["net", "t"] ["net", "t"] (defScope s_tell_rank) := ⟨rfl, rfl, rfl, by decide +kernel, rfl, by decide +kernel, by decide +kernel⟩
theorem sc_tell_cut : FnScope ["net", "t"] ["net", "t"] (defScope s_tell_cut) := ⟨rfl, rfl, rfl, by decide +kernel, rfl, by decide +kernel, by decide +kernel⟩
theorem sc_send : FnScope ["net", "e", "messages", "message"] ["net", "e", "messages"] (defScope s_send) := ⟨rfl, rfl, rfl, by decide +kernel, rfl, by decide +kernel, by decide +kernel⟩
theorem sc_answered : FnScope ["net", "word", "numbers", "row"] ["net", "word", "numbers", "row"] (defScope s_answered) := ⟨rfl, rfl, rfl, by decide +kernel, rfl, by decide +kernel, by decide +kernel⟩
theorem sc_Desk__init_ : FnScope ["self"] ["self"] (defScope s_Desk__init_) := ⟨rfl, rfl, rfl, by decide +kernel, rfl, by decide +kernel, by decide +kernel⟩
theorem sc_Desk_done : FnScope ["self", "word", "numbers", "row"] ["self", "word", "numbers", "row"] (defScope s_Desk_done) := ⟨rfl, rfl, rfl, by decide +kernel, rfl, by decide +kernel, by decide +kernel⟩
theorem sc_call_at : FnScope ["calls", "at", "behind", "numbers", "row", "begin"] ["calls", "at"] (defScope s_call_at) := ⟨rfl, rfl, rfl, by decide +kernel, rfl, by decide +kernel, by decide +kernel⟩
theorem sc_answers : FnScope ["calls", "desk", "found", "at", "told", "numbers", "row", "behind"] ["calls"] (defScope s_answers) := ⟨rfl, rfl, rfl, by decide +kernel, rfl, by decide +kernel, by decide +kernel⟩
end NM
namespace NM
set_option maxRecDepth 100000
set_option maxHeartbeats 4000000
open PySem L2
open Rd03 (Net Abs tail head many into entry vec)
/-! ### rules that the layer lacks -/
/-- a constant of the module that is a whole number -/
theorem pe_gint {X : Cx} {x : Str} {i : Int} {pos : Pos} (h : ∃ t, X.mg x = some (.int i t)) (hg : Gl X x) (hd : (x == ("__debug__" : Str)) = false := by decide) : PE X (.Name x pos) (tC (.int i)) := by
  obtain ⟨t, h⟩ := h
  exact pe_glob hg h ⟨t, rfl⟩ hd
/-- a loop over anything that yields n things -/
theorem for_it {J : It} {n : Nat} {g : TG} {tb : TS} {D : Ends} {σ : L2.St} {H : Hp} (Pv : Nat → L2.St → Hp → Prop) (h0 : Pv 0 σ H) (hgo : ∀ i σ H, i < n → Pv i σ H → J.go i H) (hst : ∀ σ H, Pv n σ H → J.stop n H)
    (hs : ∀ i x σ H H', i < n → Pv i σ H → J.yld i H x H' → g x σ H' fun σ2 H2 => tb { D with nx := Pv (i + 1), ct := Pv (i + 1), bk := D.nx } σ2 H2) (hd : ∀ σ H, Pv n σ H → D.nx σ H) :
    ∃ W : Nat → Nat → L2.St → Hp → Prop, (∃ m, W 0 m σ H) ∧ ∀ i m σ H, W i m σ H →
      (J.stop i H ∧ D.nx σ H) ∨ (J.go i H ∧ ∃ N : L2.St → Hp → Prop, (∀ σ' H', N σ' H' → ∃ m', m' < m ∧ W (i + 1) m' σ' H') ∧ ∀ x H', J.yld i H x H' → g x σ H' fun σ2 H2 => tb { D with nx := N, ct := N, bk := D.nx } σ2 H2) := by
  refine ⟨fun i m σ H => m = n - i ∧ i ≤ n ∧ Pv i σ H, ⟨n, by simp, Nat.zero_le _, h0⟩, ?_⟩
  rintro i m σ H ⟨rfl, hi, p⟩
  by_cases hlt : i < n
  · exact .inr ⟨hgo i σ H hlt p, Pv (i + 1), fun σ' H' p' => ⟨n - (i + 1), by omega, rfl, hlt, p'⟩, fun x H' y => hs i x σ H H' hlt p y⟩
  · have e : i = n := by omega
    subst e
    exact .inl ⟨hst σ H p, hd σ H p⟩
/-- a comprehension over anything that yields n things -/
theorem lc_it {J : It} {n : Nat} {g : TG} {tt : TT} {te : TE} {vs : List Nat} {σ : L2.St} {H1 : Hp} {D : Addr} {Qd : Hp → Prop} (Pv : Nat → Hp → Prop) (h0 : Pv 0 (upd H1 D (.lst []))) (hgo : ∀ i H, i < n → Pv i H → J.go i H) (hst : ∀ H, Pv n H → J.stop n H)
    (hs : ∀ i x H H', i < n → Pv i H → J.yld i H x H' → g x (wipe σ vs) H' fun σ2 H2 => wipe σ2 vs = wipe σ vs ∧ tt σ2 H2 fun b H3 =>
      if b = true then te σ2 H3 fun y H4 => ∃ acc, H4 D = some (.lst acc) ∧ acc.length < sizeLine ∧ Pv (i + 1) (upd H4 D (.lst (acc ++ [y]))) else Pv (i + 1) H3) (hd : ∀ H, Pv n H → Qd H) :
    ∃ W : Nat → Nat → Hp → Prop, (∃ m, W 0 m (upd H1 D (.lst []))) ∧ ∀ i m H, W i m H →
      (J.stop i H ∧ Qd H) ∨ (J.go i H ∧ ∃ Nx : Hp → Prop, (∀ H', Nx H' → ∃ m', m' < m ∧ W (i + 1) m' H') ∧ ∀ x H', J.yld i H x H' → g x (wipe σ vs) H' fun σ2 H2 => wipe σ2 vs = wipe σ vs ∧ tt σ2 H2 fun b H3 =>
        if b = true then te σ2 H3 fun y H4 => ∃ acc, H4 D = some (.lst acc) ∧ acc.length < sizeLine ∧ Nx (upd H4 D (.lst (acc ++ [y]))) else Nx H3) := by
  refine ⟨fun i m H => m = n - i ∧ i ≤ n ∧ Pv i H, ⟨n, by simp, Nat.zero_le _, h0⟩, ?_⟩
  rintro i m H ⟨rfl, hi, p⟩
  by_cases hlt : i < n
  · exact .inr ⟨hgo i H hlt p, Pv (i + 1), fun H' p' => ⟨n - (i + 1), by omega, rfl, hlt, p'⟩, fun x H' y => hs i x H H' hlt p y⟩
  · have e : i = n := by omega
    subst e
    exact .inl ⟨hst H p, hd H p⟩
/-- a while by a word with its measure -/
theorem while_m {c : TT} {tb : TS} {D : Ends} {σ : L2.St} {H : Hp} (Pv : Nat → L2.St → Hp → Prop) (m0 : Nat) (h0 : Pv m0 σ H)
    (hs : ∀ m σ H, Pv m σ H → c σ H fun b H1 => if b = true then ∃ N : L2.St → Hp → Prop, (∀ σ' H', N σ' H' → ∃ m', m' < m ∧ Pv m' σ' H') ∧ tb { D with nx := N, ct := N, bk := D.nx } σ H1 else D.nx σ H1) : tWhile c tb D σ H :=
  ⟨Pv, ⟨m0, h0⟩, hs⟩
/-! ### a comprehension that makes a list told beforehand -/
/-- behind i turns the new list at D holds acc i, what stood stands -/
def CompP (H1 : Hp) (D : Addr) (acc : Nat → List V) (i : Nat) (H : Hp) : Prop := H D = some (.lst (acc i)) ∧ Same H1 H
theorem same_new {H H1 : Hp} {D : Addr} {o : HO} (s : Same H1 H) (hD : H1 D = none) : Same H1 (upd H D o) := fun b u e => by
  rw [upd_ne (ne_of_none e hD)]
  exact s b u e
theorem same_upd {H : Hp} {D : Addr} {o : HO} (hD : H D = none) : Same H (upd H D o) := same_new (Same.refl H) hD
theorem comp_start {H1 : Hp} {D : Addr} {acc : Nat → List V} (hD : H1 D = none) (h0 : acc 0 = []) : CompP H1 D acc 0 (upd H1 D (.lst [])) := ⟨by rw [upd_same, h0], same_upd hD⟩
theorem comp_yes {H1 H H4 : Hp} {D : Addr} {acc : Nat → List V} {i : Nat} {y : V} (hD : H1 D = none) (P : CompP H1 D acc i H) (s : Same H H4) (e : acc (i + 1) = acc i ++ [y]) (hl : (acc i).length < sizeLine) :
    ∃ a, H4 D = some (.lst a) ∧ a.length < sizeLine ∧ CompP H1 D acc (i + 1) (upd H4 D (.lst (a ++ [y]))) :=
  ⟨acc i, s _ _ P.1, hl, by rw [CompP, upd_same, e]; exact ⟨rfl, same_new (P.2.trans s) hD⟩⟩
theorem comp_no {H1 H H3 : Hp} {D : Addr} {acc : Nat → List V} {i : Nat} (P : CompP H1 D acc i H) (s : Same H H3) (e : acc (i + 1) = acc i) : CompP H1 D acc (i + 1) H3 := ⟨by rw [e]; exact s _ _ P.1, P.2.trans s⟩
theorem small300 {n : Nat} (h : n ≤ 100000) : n < sizeLine := Nat.lt_of_le_of_lt h (by decide)
theorem small300' {n : Nat} (h : n ≤ 100000) : n ≤ sizeLine := Nat.le_of_lt (small300 h)
theorem if_true_of {c : Bool} {A B : Prop} (hc : c = true) (h : A) : if c = true then A else B := by
  rw [if_pos hc]
  exact h
theorem if_false_of {c : Bool} {A B : Prop} (hc : c = false) (h : B) : if c = true then A else B := by
  rw [hc, if_neg Bool.false_ne_true]
  exact h
/-! ### whole numbers that are natural -/
abbrev iN (l : List Nat) : List V := l.map fun (n : Nat) => V.int (n : Int)
theorem iN_append (l m : List Nat) : iN (l ++ m) = iN l ++ iN m := List.map_append
theorem iN_one (n : Nat) : iN [n] = [V.int (n : Int)] := rfl
theorem iN_len (l : List Nat) : (iN l).length = l.length := List.length_map _
theorem iN_get {l : List Nat} {i : Nat} {x : V} (h : (iN l)[i]? = some x) : ∃ n, l[i]? = some n ∧ x = .int (n : Int) := by
  rw [List.getElem?_map] at h
  cases e : l[i]? with
  | none =>
    rw [e] at h
    cases h
  | some n =>
    rw [e] at h
    exact ⟨n, rfl, (Option.some.inj h).symm⟩
theorem iN_at {l : List Nat} {i n : Nat} (h : l[i]? = some n) : (iN l)[i]? = some (.int (n : Int)) := by
  rw [List.getElem?_map, h]
  rfl
theorem map_get {α : Type} {f : α → V} {l : List α} {i : Nat} {x : V} (h : (l.map f)[i]? = some x) : ∃ n, l[i]? = some n ∧ x = f n := by
  rw [List.getElem?_map] at h
  cases e : l[i]? with
  | none =>
    rw [e] at h
    cases h
  | some n =>
    rw [e] at h
    exact ⟨n, rfl, (Option.some.inj h).symm⟩
theorem map_at {α : Type} {f : α → V} {l : List α} {i : Nat} {n : α} (h : l[i]? = some n) : (l.map f)[i]? = some (f n) := by
  rw [List.getElem?_map, h]
  rfl
theorem take_more {α : Type} {l : List α} {i : Nat} {x : α} (h : l[i]? = some x) : l.take (i + 1) = l.take i ++ [x] := by
  rw [List.take_add_one, h]
  rfl
theorem dget_of {H : Hp} {a : Addr} {kvs : List (Key × V)} {k : Int} {v : V} (e : H a = some (.dK kvs)) (h : valV kvs (Sum.inl k) = some v) : DGet H a (.int k) (some v) := by
  have := DGet.k (k := Sum.inl k) e
  rw [h] at this
  exact this
/-! ### defs, methods, classes as callers see them -/
structure Def (P : Program) (w : World) (K : PySem.W.Frag) (mg : Str → Option Value) (base : Heap) (x : Str) (k : Nat) (ps : List Str) (sp : Sp) : Prop where
  ex : ∃ f fd, mg x = some (.ref f) ∧ PySem.W.keepIn K (.ref f) = true ∧ Binds K fd ps [] ∧ FnOk P w K mg base CX0 k f fd ps sp
structure MDef (P : Program) (w : World) (K : PySem.W.Frag) (mg : Str → Option Value) (base : Heap) (C : Addr) (x : Str) (k : Nat) (ps : List Str) (sp : Sp) : Prop where
  ex : ∃ f fd, Meth K C x f ∧ Binds K fd ps [] ∧ FnOk P w K mg base CX0 k f fd ps sp
structure CDef (P : Program) (w : World) (K : PySem.W.Frag) (mg : Str → Option Value) (base : Heap) (C : Addr) (x : Str) (k : Nat) (ps : List Str) (sp : Sp) : Prop where
  ex : ∃ f fd, mg x = some (.ref C) ∧ Mk K C f ∧ Binds K fd ps [] ∧ FnOk P w K mg base CX0 k f fd ps sp
/-! ### what the top has written -/
structure Txt (K : PySem.W.Frag) (mg : Str → Option Value) (cL cN cD : Addr) : Prop where
  clL : Cls K cL
  clN : Cls K cN
  clD : Cls K cD
  nStart : NoAttr K cL "start"
  nGoal : NoAttr K cL "goal"
  nAmounts : NoAttr K cL "amounts"
  nNodes : NoAttr K cN "nodes"
  nP : NoAttr K cN "p"
  nMessages : NoAttr K cN "messages"
  nLines : NoAttr K cN "lines"
  nNet : NoAttr K cD "net"
  len : mg "len" = none
  all : mg "all" = none
  sum : mg "sum" = none
  dict : mg "dict" = none
  range : mg "range" = none
  enumerate : mg "enumerate" = none
  zip : mg "zip" = none
  cMOST_NODES : ∃ t, mg "MOST_NODES" = some (.int 16 t)
  cMOST_LINES : ∃ t, mg "MOST_LINES" = some (.int 40 t)
  cMOST_MESSAGES : ∃ t, mg "MOST_MESSAGES" = some (.int 8 t)
  cLEAST_PRIME : ∃ t, mg "LEAST_PRIME" = some (.int 2 t)
  cGREATEST_PRIME : ∃ t, mg "GREATEST_PRIME" = some (.int 251 t)
  cDONE : ∃ t, mg "DONE" = some (.int 0 t)
  cREFUSED : ∃ t, mg "REFUSED" = some (.int (-1) t)
  cFULL : ∃ t, mg "FULL" = some (.int (-2) t)
  cBEGIN : ∃ t, mg "BEGIN" = some (.int 0 t)
  cSIZE : ∃ t, mg "SIZE" = some (.int 1 t)
  cLINE : ∃ t, mg "LINE" = some (.int 2 t)
  cMIX : ∃ t, mg "MIX" = some (.int 3 t)
  cVECTOR : ∃ t, mg "VECTOR" = some (.int 4 t)
  cRANK : ∃ t, mg "RANK" = some (.int 5 t)
  cCUT : ∃ t, mg "CUT" = some (.int 6 t)
  cSEND : ∃ t, mg "SEND" = some (.int 7 t)
  num : ∃ a, mg "NUMBERS" = some (.ref a) ∧ ∀ H, SqT K H a (iN [0, 3, 2, 3, 2, 1, 1, 1])
/-! ### the heap -/
theorem lk_here {k : Str} {v : V} {r : List (Str × V)} : List.lookup k ((k, v) :: r) = some v := by
  have e : (k == k) = true := beq_self_eq_true k
  simp only [List.lookup, e]
theorem lk_past {k g : Str} {v : V} {r : List (Str × V)} (h : (k == g) = false) : List.lookup k ((g, v) :: r) = List.lookup k r := by
  simp only [List.lookup, h]
theorem put_here {f : Str} {v x : V} {r : List (Str × V)} : putF f v ((f, x) :: r) = (f, v) :: r := if_pos rfl
theorem put_past {f g : Str} {v x : V} {r : List (Str × V)} (h : ¬ g = f) : putF f v ((g, x) :: r) = (g, x) :: putF f v r := if_neg h
def lineF (u v : Nat) (d : Addr) : List (Str × V) := [("start", .int (u : Int)), ("goal", .int (v : Int)), ("amounts", .ref d)]
def netF (n p h : Nat) (L : Addr) : List (Str × V) := [("nodes", .int (n : Int)), ("p", .int (p : Int)), ("messages", .int (h : Int)), ("lines", .ref L)]
def deskF (a : Addr) : List (Str × V) := [("net", .ref a)]
theorem lineF_start {u v : Nat} {d : Addr} : (lineF u v d).lookup ("start" : Str) = some (.int (u : Int)) := lk_here
theorem lineF_goal {u v : Nat} {d : Addr} : (lineF u v d).lookup ("goal" : Str) = some (.int (v : Int)) := (lk_past (by decide +kernel)).trans lk_here
theorem lineF_amounts {u v : Nat} {d : Addr} : (lineF u v d).lookup ("amounts" : Str) = some (.ref d) := (lk_past (by decide +kernel)).trans ((lk_past (by decide +kernel)).trans lk_here)
theorem lineF_no {u v : Nat} {d : Addr} {m : Str} (h1 : (m == ("start" : Str)) = false) (h2 : (m == ("goal" : Str)) = false) (h3 : (m == ("amounts" : Str)) = false) : (lineF u v d).lookup m = none := (lk_past h1).trans ((lk_past h2).trans ((lk_past h3).trans rfl))
theorem netF_nodes {n p h : Nat} {L : Addr} : (netF n p h L).lookup ("nodes" : Str) = some (.int (n : Int)) := lk_here
theorem netF_p {n p h : Nat} {L : Addr} : (netF n p h L).lookup ("p" : Str) = some (.int (p : Int)) := (lk_past (by decide +kernel)).trans lk_here
theorem netF_messages {n p h : Nat} {L : Addr} : (netF n p h L).lookup ("messages" : Str) = some (.int (h : Int)) := (lk_past (by decide +kernel)).trans ((lk_past (by decide +kernel)).trans lk_here)
theorem netF_lines {n p h : Nat} {L : Addr} : (netF n p h L).lookup ("lines" : Str) = some (.ref L) := (lk_past (by decide +kernel)).trans ((lk_past (by decide +kernel)).trans ((lk_past (by decide +kernel)).trans lk_here))
theorem netF_no {n p h : Nat} {L : Addr} {m : Str} (h1 : (m == ("nodes" : Str)) = false) (h2 : (m == ("p" : Str)) = false) (h3 : (m == ("messages" : Str)) = false) (h4 : (m == ("lines" : Str)) = false) : (netF n p h L).lookup m = none :=
  (lk_past h1).trans ((lk_past h2).trans ((lk_past h3).trans ((lk_past h4).trans rfl)))
theorem deskF_net {a : Addr} : (deskF a).lookup ("net" : Str) = some (.ref a) := lk_here
theorem deskF_done {a : Addr} : (deskF a).lookup ("done" : Str) = none := (lk_past (by decide +kernel)).trans rfl
theorem lineF_new (u v : Nat) (d : Addr) : putF "amounts" (.ref d) (putF "goal" (.int (v : Int)) (putF "start" (.int (u : Int)) [])) = lineF u v d := by
  have e1 : putF "goal" (.int (v : Int)) (putF "start" (.int (u : Int)) []) = ([("start", .int (u : Int)), ("goal", .int (v : Int))] : List (Str × V)) := (put_past (by decide +kernel)).trans rfl
  rw [e1]
  exact (put_past (by decide +kernel)).trans (congrArg _ ((put_past (by decide +kernel)).trans rfl))
theorem netF_new (n p h : Nat) (L : Addr) : putF "lines" (.ref L) (putF "messages" (.int (h : Int)) (putF "p" (.int (p : Int)) (putF "nodes" (.int (n : Int)) []))) = netF n p h L := by
  have e1 : putF "p" (.int (p : Int)) (putF "nodes" (.int (n : Int)) []) = ([("nodes", .int (n : Int)), ("p", .int (p : Int))] : List (Str × V)) := (put_past (by decide +kernel)).trans rfl
  rw [e1]
  have e2 : putF "messages" (.int (h : Int)) ([("nodes", .int (n : Int)), ("p", .int (p : Int))] : List (Str × V)) = ([("nodes", .int (n : Int)), ("p", .int (p : Int)), ("messages", .int (h : Int))] : List (Str × V)) := (put_past (by decide +kernel)).trans (congrArg _ ((put_past (by decide +kernel)).trans rfl))
  rw [e2]
  exact (put_past (by decide +kernel)).trans (congrArg _ ((put_past (by decide +kernel)).trans (congrArg _ ((put_past (by decide +kernel)).trans rfl))))
theorem deskF_put (a b : Addr) : putF "net" (.ref b) (deskF a) = deskF b := put_here
/-- the dict of a line's amounts -/
def AmtAt (H : Hp) (d : Addr) (c : Nat) (am : Nat → Nat) : Prop := ∃ kvs : List (Key × V), H d = some (.dK kvs) ∧ kvs.length ≤ c ∧ ∀ k : Nat, k < 40 → (valV kvs (Sum.inl (k : Int))).getD (.int 0) = .int (am k : Int)
/-- the net: its instance at a, its list of lines at L, the lines' instances, their dicts -/
structure NetAt (cL cN : Addr) (H : Hp) (a : Addr) (s : Abs) (c : Nat) (L : Addr) (as ds : List Addr) : Prop where
  net : ∃ dx, H a = some (.ins cN dx (netF s.net.n s.p s.h L))
  lines : H L = some (.lst (as.map V.ref))
  alen : as.length = many s.net
  dlen : ds.length = many s.net
  line : ∀ e x d, as[e]? = some x → ds[e]? = some d → ∃ dx, H x = some (.ins cL dx (lineF (tail s.net e) (head s.net e) d))
  dict : ∀ e d, ds[e]? = some d → AmtAt H d c (entry s.mix e)
  nd : ds.Nodup
  good : Good s
theorem NetAt.same {cL cN : Addr} {H H' : Hp} {a : Addr} {s : Abs} {c : Nat} {L : Addr} {as ds : List Addr} (N : NetAt cL cN H a s c L as ds) (k : Same H H') : NetAt cL cN H' a s c L as ds where
  net := let ⟨dx, h⟩ := N.net; ⟨dx, k _ _ h⟩
  lines := k _ _ N.lines
  alen := N.alen
  dlen := N.dlen
  line := fun e x d h1 h2 => let ⟨dx, h⟩ := N.line e x d h1 h2; ⟨dx, k _ _ h⟩
  dict := fun e d h1 => let ⟨kvs, h, r⟩ := N.dict e d h1; ⟨kvs, k _ _ h, r⟩
  nd := N.nd
  good := N.good
theorem NetAt.at {cL cN : Addr} {H : Hp} {a : Addr} {s : Abs} {c : Nat} {L : Addr} {as ds : List Addr} (N : NetAt cL cN H a s c L as ds) {e : Nat} (he : e < many s.net) :
    ∃ x d dx kvs, as[e]? = some x ∧ ds[e]? = some d ∧ H x = some (.ins cL dx (lineF (tail s.net e) (head s.net e) d)) ∧ H d = some (.dK kvs) ∧ kvs.length ≤ c ∧ ∀ k : Nat, k < 40 → (valV kvs (Sum.inl (k : Int))).getD (.int 0) = .int (entry s.mix e k : Int) := by
  have h1 : as[e]? = some (as[e]'(by rw [N.alen]; exact he)) := List.getElem?_eq_getElem _
  have h2 : ds[e]? = some (ds[e]'(by rw [N.dlen]; exact he)) := List.getElem?_eq_getElem _
  obtain ⟨dx, h3⟩ := N.line _ _ _ h1 h2
  obtain ⟨kvs, h4, h5, h6⟩ := N.dict _ _ h2
  exact ⟨_, _, dx, kvs, h1, h2, h3, h4, h5, h6⟩
/-- the used lines, a dict -/
def usedK (used : List Nat) : List (Key × V) := used.map fun (e : Nat) => (Sum.inl (e : Int), V.bl true)
theorem valV_used (e : Nat) : ∀ (used : List Nat), valV (usedK used) (Sum.inl (e : Int)) = if used.contains e then some (V.bl true) else none
  | [] => rfl
  | d :: used => by
    have ih := valV_used e used
    show valV ((Sum.inl (d : Int), V.bl true) :: usedK used) _ = _
    by_cases h : d = e
    · subst h
      rw [valV_pos rfl]
      simp
    · rw [valV_neg (fun q => h (by have := Sum.inl.inj q; omega)), ih]
      have : (d :: used).contains e = used.contains e := by
        have : ¬ e = d := fun z => h z.symm
        simp [this]
      rw [this]
theorem dropK_used (e : Nat) : ∀ (used : List Nat), dropK (usedK used) (Sum.inl (e : Int)) = usedK (used.filter fun d => d != e)
  | [] => rfl
  | d :: used => by
    have ih := dropK_used e used
    show dropK ((Sum.inl (d : Int), V.bl true) :: usedK used) _ = _
    by_cases h : d = e
    · subst h
      rw [dropK_pos rfl, ih, List.filter_cons, if_neg (by simp)]
    · rw [dropK_neg (fun q => h (by have := Sum.inl.inj q; omega)), ih, List.filter_cons, if_pos (by simp [h])]
      rfl
/-- found, a dict -/
def FoundAt (H : Hp) (p : Addr) (f : Found) : Prop := ∃ kvs : List (Key × V), H p = some (.dK kvs) ∧ kvs.length ≤ f.length ∧ ∀ v : Nat,
  (look f v = none → valV kvs (Sum.inl (v : Int)) = none) ∧ (look f v = some none → valV kvs (Sum.inl (v : Int)) = some .non) ∧
    (∀ u e : Nat, look f v = some (some (u, e)) → ∃ q, valV kvs (Sum.inl (v : Int)) = some (.ref q) ∧ H q = some (.tup [.int (u : Int), .int (e : Int)]))
theorem FoundAt.same {H H' : Hp} {p : Addr} {f : Found} (F : FoundAt H p f) (k : Same H H') : FoundAt H' p f := by
  obtain ⟨kvs, h1, h2, h3⟩ := F
  exact ⟨kvs, k _ _ h1, h2, fun v => ⟨(h3 v).1, (h3 v).2.1, fun u e q => let ⟨q', a, b⟩ := (h3 v).2.2 u e q; ⟨q', a, k _ _ b⟩⟩⟩
/-- pairs of numbers, a list of tuples -/
def PairsAt (H : Hp) (p : Addr) (l : List (Nat × Nat)) : Prop := ∃ ts : List Addr, H p = some (.lst (ts.map V.ref)) ∧ ts.length = l.length ∧ ∀ (i : Nat) q v e, ts[i]? = some q → l[i]? = some (v, e) → H q = some (.tup [.int ((v : Nat) : Int), .int ((e : Nat) : Int)])
/-- rows, a list of lists -/
def RowsAt (H : Hp) (p : Addr) (rs : List (List Nat)) : Prop := ∃ bs : List Addr, H p = some (.lst (bs.map V.ref)) ∧ bs.length = rs.length ∧ ∀ (i : Nat) b r, bs[i]? = some b → rs[i]? = some r → H b = some (.lst (iN r))
/-- the steps of the elimination -/
def StepsAt (H : Hp) (p : Addr) (st : List (Nat × List Nat)) : Prop := ∃ ts : List Addr, H p = some (.lst (ts.map V.ref)) ∧ ts.length = st.length ∧ ∀ (i : Nat) t pl r, ts[i]? = some t → st[i]? = some (pl, r) → ∃ b, b ≠ p ∧ H t = some (.tup [.int ((pl : Nat) : Int), .ref b]) ∧ H b = some (.lst (iN r))
theorem StepsAt.same {H H' : Hp} {p : Addr} {st : List (Nat × List Nat)} (F : StepsAt H p st) (k : Same H H') : StepsAt H' p st := by
  obtain ⟨ts, h1, h2, h3⟩ := F
  exact ⟨ts, k _ _ h1, h2, fun i t pl r a b => let ⟨b', q0, q1, q2⟩ := h3 i t pl r a b; ⟨b', q0, k _ _ q1, k _ _ q2⟩⟩
/-- told: each line's vector, for the lines of which ok says so -/
def ToldAt (H : Hp) (p : Addr) (s : Abs) (c : Nat) (ok : Nat → Prop) : Prop := ∃ kvs : List (Key × V), H p = some (.dK kvs) ∧ kvs.length ≤ c ∧ ∀ e : Nat, ok e → ∃ b, valV kvs (Sum.inl (e : Int)) = some (.ref b) ∧ H b = some (.lst (iN (vec s.net s.p s.h s.mix e)))
theorem ToldAt.same {H H' : Hp} {p : Addr} {s : Abs} {c : Nat} {ok : Nat → Prop} (F : ToldAt H p s c ok) (k : Same H H') : ToldAt H' p s c ok := by
  obtain ⟨kvs, h1, h2, h3⟩ := F
  exact ⟨kvs, k _ _ h1, h2, fun e o => let ⟨b, q, r⟩ := h3 e o; ⟨b, q, k _ _ r⟩⟩
/-! ### the promises -/
/-- gives back a new list of natural numbers, all else stands -/
abbrev GivesN (H : Hp) (Q : VK) (l : List Nat) : Prop := ∀ H' q, Same H H' → H q = none → H' q = some (.lst (iN l)) → Q (.ref q) H'
/-- gives back a value, all that stood stands -/
abbrev Gives (H : Hp) (Q : VK) (v : V) : Prop := ∀ H', Same H H' → Q v H'
/-- gives back a new list of whole numbers -/
abbrev GivesI (H : Hp) (Q : VK) (l : List Int) : Prop := ∀ H' q, Same H H' → H q = none → H' q = some (.lst (l.map V.int)) → Q (.ref q) H'
section
variable (cL cN : Addr)
def sp_Line : Sp := fun vs H Q _ => ∃ (x dx : Addr) (u v : Nat), vs = [.ref x, .int (u : Int), .int (v : Int)] ∧ H x = some (.ins cL dx []) ∧
  ∀ H' d, (∀ b o, H b = some o → b ≠ x → H' b = some o) → H d = none → H' d = some (.dK []) → H' x = some (.ins cL dx (lineF u v d)) → Q .non H'
def sp_amount : Sp := fun vs H Q _ => ∃ (x dx : Addr) (u v : Nat) (d : Addr) (kvs : List (Key × V)) (k : Nat), vs = [.ref x, .int (k : Int)] ∧ H x = some (.ins cL dx (lineF u v d)) ∧ H d = some (.dK kvs) ∧ Q ((valV kvs (Sum.inl (k : Int))).getD (.int 0)) H
def sp_Net : Sp := fun vs H Q _ => ∃ (x dx : Addr) (n p h : Nat), vs = [.ref x, .int (n : Int), .int (p : Int), .int (h : Int)] ∧ H x = some (.ins cN dx []) ∧
  ∀ H' L, (∀ b o, H b = some o → b ≠ x → H' b = some o) → H L = none → H' L = some (.lst []) → H' x = some (.ins cN dx (netF n p h L)) → Q .non H'
def sp_has_node : Sp := fun vs H Q _ => ∃ (a : Addr) (s : Abs) (c : Nat) (L : Addr) (as ds : List Addr) (t : Int), vs = [.ref a, .int t] ∧ NetAt cL cN H a s c L as ds ∧ Q (.bl (Rd03.below t s.net.n)) H
def sp_has_line : Sp := fun vs H Q _ => ∃ (a : Addr) (s : Abs) (c : Nat) (L : Addr) (as ds : List Addr) (t : Int), vs = [.ref a, .int t] ∧ NetAt cL cN H a s c L as ds ∧ Q (.bl (Rd03.below t (many s.net))) H
def sp_lines_into : Sp := fun vs H Q _ => ∃ (a : Addr) (s : Abs) (c : Nat) (L : Addr) (as ds : List Addr) (t : Nat), vs = [.ref a, .int (t : Int)] ∧ NetAt cL cN H a s c L as ds ∧ GivesN H Q (into s.net t)
def sp_lines_from : Sp := fun vs H Q _ => ∃ (a : Addr) (s : Abs) (c : Nat) (L : Addr) (as ds : List Addr) (t : Nat), vs = [.ref a, .int (t : Int)] ∧ NetAt cL cN H a s c L as ds ∧ GivesN H Q (fromN s.net t)
/-- whether a line has an amount for a number -/
def isPart (s : Abs) (e : Nat) (d : Int) : Bool := if tail s.net e = 0 then Rd03.below d s.h else (Rd03.below d (many s.net) && decide (head s.net d.toNat = tail s.net e))
def sp_is_part : Sp := fun vs H Q _ => ∃ (a : Addr) (s : Abs) (c : Nat) (L : Addr) (as ds : List Addr) (e : Nat) (d : Int), vs = [.ref a, .int (e : Int), .int d] ∧ NetAt cL cN H a s c L as ds ∧ e < many s.net ∧ Gives H Q (.bl (isPart s e d))
end
def sp_is_prime : Sp := fun vs H Q _ => ∃ (n : Int), vs = [.int n] ∧ Gives H Q (.bl (decide (2 ≤ n) && decide (n ≤ 251) && Rd03.prime n.toNat))
def sp_inverse_of : Sp := fun vs H Q _ => ∃ (a p : Nat), vs = [.int (a : Int), .int (p : Int)] ∧ a ≤ 251 ∧ 2 ≤ p ∧ p ≤ 251 ∧ invCands p a ≠ [] ∧ Gives H Q (.int (invOf p a : Int))
def sp_added : Sp := fun vs H Q _ => ∃ (a b : Addr) (xs ys : List Nat) (t p : Nat), vs = [.ref a, .ref b, .int (t : Int), .int (p : Int)] ∧ H a = some (.lst (iN xs)) ∧ H b = some (.lst (iN ys)) ∧ xs.length = ys.length ∧ xs.length ≤ 40 ∧ 0 < p ∧ t ≤ 251 ∧
  GivesN H Q (added p xs ys t)
section
variable (cL cN : Addr)
def sp_vector_from_messages : Sp := fun vs H Q _ => ∃ (a : Addr) (s : Abs) (c : Nat) (L : Addr) (as ds : List Addr) (e : Nat) (x : Addr), vs = [.ref a, .ref x] ∧ NetAt cL cN H a s c L as ds ∧ as[e]? = some x ∧ tail s.net e = 0 ∧ GivesN H Q (vec s.net s.p s.h s.mix e)
def sp_vector_from_lines : Sp := fun vs H Q _ => ∃ (a : Addr) (s : Abs) (c : Nat) (L : Addr) (as ds : List Addr) (e : Nat) (x td : Addr) (c' : Nat), vs = [.ref a, .ref x, .ref td] ∧ NetAt cL cN H a s c L as ds ∧ as[e]? = some x ∧ tail s.net e ≠ 0 ∧
  ToldAt H td s c' (fun d => d ∈ into s.net (tail s.net e)) ∧ GivesN H Q (vec s.net s.p s.h s.mix e)
def sp_all_vectors : Sp := fun vs H Q _ => ∃ (a : Addr) (s : Abs) (c : Nat) (L : Addr) (as ds : List Addr), vs = [.ref a] ∧ NetAt cL cN H a s c L as ds ∧ ∀ H' q c', Same H H' → ToldAt H' q s c' (fun d => d < many s.net) → Q (.ref q) H'
def sp_vector_of : Sp := fun vs H Q _ => ∃ (a : Addr) (s : Abs) (c : Nat) (L : Addr) (as ds : List Addr) (e : Nat), vs = [.ref a, .int (e : Int)] ∧ NetAt cL cN H a s c L as ds ∧ e < many s.net ∧
  ∀ H' q, Same H H' → H' q = some (.lst (iN (vec s.net s.p s.h s.mix e))) → Q (.ref q) H'
def sp_carried : Sp := fun vs H Q _ => ∃ (a : Addr) (s : Abs) (c : Nat) (L : Addr) (as ds : List Addr) (e : Nat) (m : Addr) (ms : List Nat), vs = [.ref a, .int (e : Int), .ref m] ∧ NetAt cL cN H a s c L as ds ∧ e < many s.net ∧ H m = some (.lst (iN ms)) ∧ ms.length = s.h ∧
  Gives H Q (.int ((((vec s.net s.p s.h s.mix e).zip ms).map fun z => z.1 * z.2).sum % s.p : Nat))
end
def sp_first_place : Sp := fun vs H Q _ => ∃ (a : Addr) (r : List Nat), vs = [.ref a] ∧ H a = some (.lst (iN r)) ∧ Gives H Q (match firstPlace r with | none => .non | some i => .int (i : Int))
def sp_lessened : Sp := fun vs H Q _ => ∃ (a t : Addr) (r : List Nat) (st : List (Nat × List Nat)) (p h : Nat), vs = [.ref a, .ref t, .int (p : Int)] ∧ H a = some (.lst (iN r)) ∧ StepsAt H t st ∧ 2 ≤ p ∧ p ≤ 251 ∧ h ≤ 8 ∧ RowOk p h r ∧ Ech p h st ∧
  ∀ H' q, Same H H' → H' q = some (.lst (iN (lessened p r st))) → Q (.ref q) H'
def sp_rank_of : Sp := fun vs H Q _ => ∃ (a : Addr) (rs : List (List Nat)) (p h : Nat), vs = [.ref a, .int (p : Int)] ∧ RowsAt H a rs ∧ rs.length ≤ 40 ∧ Rd03.prime p = true ∧ p ≤ 251 ∧ h ≤ 8 ∧ (∀ r ∈ rs, RowOk p h r) ∧ Gives H Q (.int ((elim p rs).length : Int))
section
variable (cL cN : Addr)
def sp_node_rank : Sp := fun vs H Q _ => ∃ (a : Addr) (s : Abs) (c : Nat) (L : Addr) (as ds : List Addr) (t : Nat), vs = [.ref a, .int (t : Int)] ∧ NetAt cL cN H a s c L as ds ∧ Gives H Q (.int (Rd03.rank s.net s.p s.h s.mix t : Int))
def sp_steps_from : Sp := fun vs H Q _ => ∃ (a : Addr) (s : Abs) (c : Nat) (L : Addr) (as ds : List Addr) (t : Nat) (u : Addr) (used : List Nat), vs = [.ref a, .int (t : Int), .ref u] ∧ NetAt cL cN H a s c L as ds ∧ H u = some (.dK (usedK used)) ∧
  ∀ H' q, Same H H' → H q = none → PairsAt H' q (stepsFrom s.net t used) → Q (.ref q) H'
def sp_reached : Sp := fun vs H Q _ => ∃ (a : Addr) (s : Abs) (c : Nat) (L : Addr) (as ds : List Addr) (u : Addr) (used : List Nat), vs = [.ref a, .ref u] ∧ NetAt cL cN H a s c L as ds ∧ H u = some (.dK (usedK used)) ∧
  ∀ H' q f, Same H H' → FoundAt H' q f → Grown s.net used f → Closed s.net used f → Q (.ref q) H'
end
def sp_way_to : Sp := fun vs H Q _ => ∃ (p : Addr) (N : Net) (used : List Nat) (f : Found) (t : Nat), vs = [.ref p, .int (t : Int)] ∧ FoundAt H p f ∧ Grown N used f ∧ f.length ≤ 16 ∧ t ∈ keys f ∧
  ∀ H' q l, Same H H' → H' q = some (.lst (iN l)) → WayTo f t l → Q (.ref q) H'
def sp_with_way : Sp := fun vs H Q _ => ∃ (u wa : Addr) (used way : List Nat) (m : Nat), vs = [.ref u, .ref wa] ∧ H u = some (.dK (usedK used)) ∧ H wa = some (.lst (iN way)) ∧ used.Nodup ∧ (∀ e ∈ used, e < m) ∧ (∀ e ∈ way, e < m) ∧ m ≤ 40 ∧
  ∀ H' q, Same H H' → H' q = some (.dK (usedK (withWay used way))) → Q (.ref q) H'
section
variable (cL cN : Addr)
def sp_node_cut : Sp := fun vs H Q _ => ∃ (a : Addr) (s : Abs) (c : Nat) (L : Addr) (as ds : List Addr) (t : Nat), vs = [.ref a, .int (t : Int)] ∧ NetAt cL cN H a s c L as ds ∧ t ≠ 0 ∧ t < s.net.n ∧ Gives H Q (.int (Rd03.cut s.net t : Int))
end
def isSize (n p h : Int) : Bool := (decide (1 ≤ n) && decide (n ≤ 16)) && ((decide (2 ≤ p) && decide (p ≤ 251) && Rd03.prime p.toNat) && (decide (1 ≤ h) && decide (h ≤ 8)))
def sp_is_size : Sp := fun vs H Q _ => ∃ (n p h : Int), vs = [.int n, .int p, .int h] ∧ Gives H Q (.bl (isSize n p h))
/-- all that is tracked but the net's own list and dicts stands -/
def Fr (H H' : Hp) (L : Addr) (ds : List Addr) : Prop := ∀ b o, H b = some o → b ≠ L → b ∉ ds → H' b = some o
section
variable (cL cN : Addr)
/-- a call's answer, and what it makes of the net -/
def Does (H : Hp) (Q : VK) (a : Addr) (s : Abs) (c : Nat) (L : Addr) (ds : List Addr) (x : Rd03.Call) : Prop := ∀ H' q as' ds', H q = none → H' q = some (.lst ((ansOf (Rd03.does s x).2).map V.int)) → NetAt cL cN H' a (Rd03.does s x).1 (c + 1) L as' ds' →
  (∀ b ∈ ds', b ∈ ds ∨ H b = none) → Fr H H' L ds → Q (.ref q) H'
def sp_put_line : Sp := fun vs H Q _ => ∃ (a : Addr) (s : Abs) (c : Nat) (L : Addr) (as ds : List Addr) (u v : Int), vs = [.ref a, .int u, .int v] ∧ NetAt cL cN H a s c L as ds ∧ c ≤ 1000 ∧ Does cL cN H Q a s c L ds (.line u v)
def sp_mix : Sp := fun vs H Q _ => ∃ (a : Addr) (s : Abs) (c : Nat) (L : Addr) (as ds : List Addr) (e d k : Int), vs = [.ref a, .int e, .int d, .int k] ∧ NetAt cL cN H a s c L as ds ∧ c ≤ 1000 ∧ Does cL cN H Q a s c L ds (.mix e d k)
def sp_tell_vector : Sp := fun vs H Q _ => ∃ (a : Addr) (s : Abs) (c : Nat) (L : Addr) (as ds : List Addr) (e m : Int), vs = [.ref a, .int e, .int m] ∧ NetAt cL cN H a s c L as ds ∧ GivesI H Q (ansOf (Rd03.does s (.vector e m)).2)
def sp_tell_rank : Sp := fun vs H Q _ => ∃ (a : Addr) (s : Abs) (c : Nat) (L : Addr) (as ds : List Addr) (t : Int), vs = [.ref a, .int t] ∧ NetAt cL cN H a s c L as ds ∧ GivesI H Q (ansOf (Rd03.does s (.rank t)).2)
def sp_tell_cut : Sp := fun vs H Q _ => ∃ (a : Addr) (s : Abs) (c : Nat) (L : Addr) (as ds : List Addr) (t : Int), vs = [.ref a, .int t] ∧ NetAt cL cN H a s c L as ds ∧ GivesI H Q (ansOf (Rd03.does s (.cut t)).2)
def sp_send : Sp := fun vs H Q _ => ∃ (a : Addr) (s : Abs) (c : Nat) (L : Addr) (as ds : List Addr) (e : Int) (m : Addr) (row : List Int), vs = [.ref a, .int e, .ref m] ∧ NetAt cL cN H a s c L as ds ∧ H m = some (.lst (row.map V.int)) ∧ (∀ z ∈ row, 0 ≤ z ∧ z ≤ 255) ∧ row.length ≤ 8 ∧
  GivesI H Q (ansOf (Rd03.does s (.send e (Rd03Neutral.natsOf row) row.length)).2)
def sp_answered : Sp := fun vs H Q _ => ∃ (a : Addr) (s : Abs) (c : Nat) (L : Addr) (as ds : List Addr) (w : Nat) (nu ro : Addr) (nums row : List Int) (x : Rd03.Call), vs = [.ref a, .int (w : Int), .ref nu, .ref ro] ∧ NetAt cL cN H a s c L as ds ∧ c ≤ 1000 ∧
  H nu = some (.lst (nums.map V.int)) ∧ H ro = some (.lst (row.map V.int)) ∧ CallIs w nums row x ∧ w ≠ 0 ∧ w ≠ 1 ∧ Does cL cN H Q a s c L ds x
end
section
variable (cL cN cD : Addr)
def sp_Desk : Sp := fun vs H Q _ => ∃ (x dx : Addr), vs = [.ref x] ∧ H x = some (.ins cD dx []) ∧ ∀ H' a L, (∀ b o, H b = some o → b ≠ x → H' b = some o) → H L = none → H a = none → H' x = some (.ins cD dx (deskF a)) → NetAt cL cN H' a {} 0 L [] [] → Q .non H'
def sp_done : Sp := fun vs H Q _ => ∃ (dk dx a : Addr) (s : Abs) (c : Nat) (L : Addr) (as ds : List Addr) (w : Nat) (nu ro : Addr) (nums row : List Int) (x : Rd03.Call), vs = [.ref dk, .int (w : Int), .ref nu, .ref ro] ∧ H dk = some (.ins cD dx (deskF a)) ∧ dk ≠ a ∧ NetAt cL cN H a s c L as ds ∧ c ≤ 1000 ∧
  H nu = some (.lst (nums.map V.int)) ∧ H ro = some (.lst (row.map V.int)) ∧ CallIs w nums row x ∧
  ∀ H' q a' L' as' ds', H q = none → H' q = some (.lst ((ansOf (Rd03.does s x).2).map V.int)) → H' dk = some (.ins cD dx (deskF a')) → NetAt cL cN H' a' (Rd03.does s x).1 (c + 1) L' as' ds' → (L' = L ∨ H L' = none) → (∀ b ∈ ds', b ∈ ds ∨ H b = none) →
    (∀ b o, H b = some o → b ≠ dk → b ≠ L → b ∉ ds → H' b = some o) → dk ≠ a' → Q (.ref q) H'
end
def sp_call_at (K : PySem.W.Frag) : Sp := fun vs H Q _ => ∃ (ca : Addr) (l : List Int) (i w : Nat) (nums row : List Int) (j : Nat), vs = [.ref ca, .int (i : Int)] ∧ SqL K H ca (l.map V.int) ∧ CallAt l i w nums row j ∧
  ∀ H' t nu ro, Same H H' → H nu = none → H ro = none → H' t = some (.tup [.ref nu, .ref ro, .int (j : Int)]) → H' nu = some (.lst (nums.map V.int)) → H' ro = some (.lst (row.map V.int)) → Q (.ref t) H'
def sp_answers (K : PySem.W.Frag) : Sp := fun vs H Q _ => ∃ (ca : Addr) (l : List Int), vs = [.ref ca] ∧ SqL K H ca (l.map V.int) ∧ l.length ≤ 30000 ∧ PyRd03.answers_asked l = true ∧
  ∀ (H' : Hp) (p : Addr), H' p = some (.lst ((PyRd03.answers l).map V.int)) → Q (.ref p) H'
end NM
namespace NM
set_option maxRecDepth 100000
set_option maxHeartbeats 4000000
open PySem L2
open Rd03 (Net Abs tail head many into entry vec)
section
variable {P : Program} {w : World} {K : PySem.W.Frag} {mg : Str → Option Value} {base : Heap} {cL cN cD : Addr}
theorem ok_Line {f : Addr} {fd : FuncData} (F : Fun K "__init__" "Line.__init__" s_Line__init_ f fd) (T : Txt K mg cL cN cD) : FnOk P w K mg base CX0 1 f fd ["self", "start", "goal"] (sp_Line cL) := by
  refine F.ok sc_Line__init_ (fun vs H Q E h => ?_) (fun cdv A outer s H vs Q E hr h => ?_)
  · obtain ⟨x, dx, u, v, rfl, _⟩ := h
    rfl
  · obtain ⟨x, dx, u, v, rfl, hx, k⟩ := h
    refine ⟨_, (pss_cons (ps_fld (pv 0) (pv 1) rfl)
        (pss_cons (ps_fld (pv 0) (pv 2) rfl)
        (pss_one (ps_fld (pv 0) pe_dnewK rfl)))), ?_⟩
    refine ⟨_, rfl, _, rfl, x, cL, dx, [], rfl, hx, T.clL, T.nStart, (by show 0 < 1000; decide), ?_⟩
    refine ⟨_, rfl, _, rfl, x, cL, dx, _, rfl, upd_same, T.clL, T.nGoal, (by show 1 < 1000; decide), ?_⟩
    intro d hd
    have nd : d ≠ x := fun q => by
      rw [q, upd_same] at hd
      cases hd
    have hd0 : H d = none := by
      rw [upd_ne nd, upd_ne nd] at hd
      exact hd
    refine ⟨_, rfl, x, cL, dx, _, rfl, Eq.trans (upd_ne nd.symm) upd_same, T.clL, T.nAmounts, ?_, ?_⟩
    · refine Nat.lt_of_le_of_lt (length_putF _ _ _) ?_
      have := length_putF "start" (.int (u : Int)) []
      simp only [List.length_nil] at this
      omega
    refine k _ d (fun b o e hb => ?_) hd0 (by rw [upd_ne nd]; exact upd_same) ?_
    · rw [upd_ne hb, upd_ne (ne_of_none e hd0), upd_ne hb, upd_ne hb]
      exact e
    · exact Eq.trans upd_same (congrArg (fun q => some (HO.ins cL dx q)) (lineF_new u v d))
theorem ok_amount {f : Addr} {fd : FuncData} (F : Fun K "amount" "Line.amount" s_Line_amount f fd) (T : Txt K mg cL cN cD) : FnOk P w K mg base CX0 1 f fd ["self", "d"] (sp_amount cL) := by
  refine F.ok sc_Line_amount (fun vs H Q E h => ?_) (fun cdv A outer s H vs Q E hr h => ?_)
  · obtain ⟨x, dx, u, v, d, kvs, k, rfl, _⟩ := h
    rfl
  · obtain ⟨x, dx, u, v, d, kvs, k, rfl, hx, hd, q⟩ := h
    refine ⟨_, (pss_one (ps_ret (pe_dget2 (hu_of hr) (pe_fld (pv 0) rfl) (pv 1) pe_int ⟨rfl, rfl, rfl, rfl⟩))), ?_⟩
    exact ⟨_, rfl, x, cL, dx, _, _, rfl, hx, T.clL, T.nAmounts, lineF_amounts, d, rfl, .inl ⟨kvs, .inl hd⟩, _, rfl, _, DGet.k (k := Sum.inl (k : Int)) hd, q⟩
theorem ok_Net {f : Addr} {fd : FuncData} (F : Fun K "__init__" "Net.__init__" s_Net__init_ f fd) (T : Txt K mg cL cN cD) : FnOk P w K mg base CX0 1 f fd ["self", "nodes", "p", "messages"] (sp_Net cN) := by
  refine F.ok sc_Net__init_ (fun vs H Q E h => ?_) (fun cdv A outer s H vs Q E hr h => ?_)
  · obtain ⟨x, dx, n, p, h, rfl, _⟩ := h
    rfl
  · obtain ⟨x, dx, n, p, h, rfl, hx, k⟩ := h
    refine ⟨_, (pss_cons (ps_fld (pv 0) (pv 1) rfl)
        (pss_cons (ps_fld (pv 0) (pv 2) rfl)
        (pss_cons (ps_fld (pv 0) (pv 3) rfl)
        (pss_one (ps_fld (pv 0) (pe_lst pa_nil) rfl))))), ?_⟩
    refine ⟨_, rfl, _, rfl, x, cN, dx, [], rfl, hx, T.clN, T.nNodes, (by show 0 < 1000; decide), ?_⟩
    refine ⟨_, rfl, _, rfl, x, cN, dx, _, rfl, upd_same, T.clN, T.nP, (by show 1 < 1000; decide), ?_⟩
    have l1 : (putF "p" (.int (p : Int)) (putF "nodes" (.int (n : Int)) [])).length ≤ 2 := Nat.le_trans (length_putF _ _ _) (Nat.succ_le_succ (length_putF _ _ []))
    refine ⟨_, rfl, _, rfl, x, cN, dx, _, rfl, upd_same, T.clN, T.nMessages, Nat.lt_of_le_of_lt l1 (by decide), ?_⟩
    refine ⟨Nat.zero_le _, fun L hL => ?_⟩
    have nd : L ≠ x := fun q => by
      rw [q, upd_same] at hL
      cases hL
    have hL0 : H L = none := by
      rw [upd_ne nd, upd_ne nd, upd_ne nd] at hL
      exact hL
    refine ⟨_, rfl, x, cN, dx, _, rfl, Eq.trans (upd_ne nd.symm) upd_same, T.clN, T.nLines, ?_, ?_⟩
    · exact Nat.lt_of_le_of_lt (Nat.le_trans (length_putF _ _ _) (Nat.succ_le_succ l1)) (by decide)
    refine k _ L (fun b o e hb => ?_) hL0 (by rw [upd_ne nd]; exact upd_same) ?_
    · rw [upd_ne hb, upd_ne (ne_of_none e hL0), upd_ne hb, upd_ne hb, upd_ne hb]
      exact e
    · exact Eq.trans upd_same (congrArg (fun q => some (HO.ins cN dx q)) (netF_new n p h L))
theorem ok_has_node {f : Addr} {fd : FuncData} (F : Fun K "has_node" "Net.has_node" s_Net_has_node f fd) (T : Txt K mg cL cN cD) : FnOk P w K mg base CX0 1 f fd ["self", "t"] (sp_has_node cL cN) := by
  refine F.ok sc_Net_has_node (fun vs H Q E h => ?_) (fun cdv A outer s H vs Q E hr h => ?_)
  · obtain ⟨a, s, c, L, as, ds, t, rfl, _⟩ := h
    rfl
  · obtain ⟨a, s, c, L, as, ds, t, rfl, N, q⟩ := h
    obtain ⟨dx, hn⟩ := N.net
    refine ⟨_, (pss_one (ps_ret (pe_and (pe_cmpR op_le pe_int (pv 1) (nomark _)) (pe_one (pe_cmpR op_lt (pv 1) (pe_fld (pv 0) rfl) (nomark _)))))), ?_⟩
    refine ⟨_, rfl, _, _, rfl, rfl, _, rfl, ?_⟩
    unfold Rd03.below at q
    by_cases h0 : 0 ≤ t
    · refine if_true_of (decide_eq_true h0) ?_
      rw [decide_eq_true h0, Bool.true_and] at q
      exact ⟨_, rfl, _, rfl, a, cN, dx, _, _, rfl, hn, T.clN, T.nNodes, netF_nodes, _, _, rfl, rfl, q⟩
    · refine if_false_of (decide_eq_false h0) ?_
      rw [decide_eq_false h0, Bool.false_and] at q
      exact q
theorem ok_has_line {f : Addr} {fd : FuncData} (F : Fun K "has_line" "Net.has_line" s_Net_has_line f fd) (T : Txt K mg cL cN cD) : FnOk P w K mg base CX0 1 f fd ["self", "e"] (sp_has_line cL cN) := by
  refine F.ok sc_Net_has_line (fun vs H Q E h => ?_) (fun cdv A outer s H vs Q E hr h => ?_)
  · obtain ⟨a, s, c, L, as, ds, t, rfl, _⟩ := h
    rfl
  · obtain ⟨a, s, c, L, as, ds, t, rfl, N, q⟩ := h
    obtain ⟨dx, hn⟩ := N.net
    refine ⟨_, (pss_one (ps_ret (pe_and (pe_cmpR op_le pe_int (pv 1) (nomark _)) (pe_one (pe_cmpR op_lt (pv 1) (pe_callB call_len_seq (by rfl) T.len PySem.boot_len (pa_cons (pe_fld (pv 0) rfl) pa_nil)) (nomark _)))))), ?_⟩
    refine ⟨_, rfl, _, _, rfl, rfl, _, rfl, ?_⟩
    unfold Rd03.below at q
    by_cases h0 : 0 ≤ t
    · refine if_true_of (decide_eq_true h0) ?_
      rw [decide_eq_true h0, Bool.true_and] at q
      refine ⟨_, rfl, _, rfl, a, cN, dx, _, _, rfl, hn, T.clN, T.nLines, netF_lines, L, _, rfl, .inl (SqL.of N.lines), _, _, rfl, rfl, ?_⟩
      rw [List.length_map, N.alen]
      exact q
    · refine if_false_of (decide_eq_false h0) ?_
      rw [decide_eq_false h0, Bool.false_and] at q
      exact q
theorem filter_take_succ {p : Nat → Bool} (i : Nat) : (List.range (i + 1)).filter p = (List.range i).filter p ++ (if p i then [i] else []) := by
  rw [List.range_succ, List.filter_append]
  congr 1
  by_cases h : p i <;> simp [h]
theorem ok_lines_into {f : Addr} {fd : FuncData} (F : Fun K "lines_into" "Net.lines_into" s_Net_lines_into f fd) (T : Txt K mg cL cN cD) : FnOk P w K mg base CX0 1 f fd ["self", "t"] (sp_lines_into cL cN) := by
  refine F.ok sc_Net_lines_into (fun vs H Q E h => ?_) (fun cdv A outer s H vs Q E hr h => ?_)
  · obtain ⟨a, s, c, L, as, ds, t, rfl, _⟩ := h
    rfl
  · obtain ⟨a, s, c, L, as, ds, t, rfl, N, q⟩ := h
    obtain ⟨dx, hn⟩ := N.net
    refine ⟨_, (pss_one (ps_ret (pe_lc (own := [("e", 2), ("line", 3)]) (g := (gTup K 2 (gCons (gName 2) (gCons (gName 3) gNil)))) (tt := (tTest (tOp rEq (tFld K (tVar 3) "goal") (tVar 1)))) (te := (tVar 2)) rfl sc_Net_lines_into.nd (pi_enum (by rfl) T.enumerate (pa_cons (pe_fld (pv 0) rfl) pa_nil)) (blkOk_by (own := [("e", 2), ("line", 3)]) (N := ["self", "t", "e", "line"]) (sc := defScope s_Net_lines_into) (by decide +kernel)) (fun _ _ _ _ _ => (pg_tup (by rfl) (pgs_cons (pg_name (i := 2) sc_Net_lines_into.nd rfl (Or.inl rfl)) (pgs_cons (pg_name (i := 3) sc_Net_lines_into.nd rfl (Or.inl rfl)) pgs_nil)))) (fun _ _ _ _ _ => pts_one (pt_cmpR op_eq (pe_fld (pv 3) rfl) (pv 1) (nomark _))) (fun _ _ _ _ _ => (pv 2))))), ?_⟩
    refine ⟨_, rfl, a, cN, dx, _, _, rfl, hn, T.clN, T.nLines, netF_lines, L, _, rfl, SqL.of N.lines, fun D hD => ?_⟩
    refine lc_it (n := many s.net) (CompP H D fun i => iN ((List.range i).filter fun e => head s.net e == t)) (comp_start hD rfl) (fun i H1 hi P => ?_) (fun H1 P => ?_) (fun i x H1 H2 hi P y => ?_) (fun H1 P => q H1 D P.2 hD P.1)
    · obtain ⟨x, d, dx', kvs, h1, _⟩ := N.at hi
      exact ⟨_, _, SqL.of (P.2 _ _ N.lines), map_at h1⟩
    · exact ⟨_, SqL.of (P.2 _ _ N.lines), by rw [List.length_map, N.alen]; exact Nat.le_refl _⟩
    · obtain ⟨U, x', rfl, hU, rfl, hx⟩ := y
      obtain ⟨xa, d, dx', kvs, h1, h2, h3, h4⟩ := N.at hi
      have e : some (V.ref xa) = some x' := (map_at (f := V.ref) h1).symm.trans (hx _ (SqL.of (P.2 _ _ N.lines)))
      cases e
      have sU : Same H1 (upd H1 U (.tup [.int (i : Int), .ref xa])) := same_upd hU
      refine ⟨U, _, rfl, SqT.of upd_same, rfl, _, _, rfl, _, _, rfl, rfl, rfl, ?_⟩
      refine ⟨_, rfl, xa, cL, dx', _, _, rfl, sU _ _ (P.2 _ _ h3), T.clL, T.nGoal, lineF_goal, _, rfl, rfl, _, rfl, ?_⟩
      by_cases hc : head s.net i = t
      · refine if_true_of (decide_eq_true (by rw [hc])) ?_
        refine ⟨_, rfl, comp_yes hD P sU ?_ (small300 ?_)⟩
        · rw [filter_take_succ, if_pos (by simpa using hc)]
          simp
        · have := List.length_filter_le (fun e => head s.net e == t) (List.range i)
          rw [List.length_range] at this
          have := N.good.m40
          simp only [List.length_map]
          omega
      · refine if_false_of (decide_eq_false fun z => hc (by have := V.int.inj z; omega)) ?_
        refine comp_no P sU ?_
        rw [filter_take_succ, if_neg (by simpa using hc)]
        simp
theorem ok_lines_from {f : Addr} {fd : FuncData} (F : Fun K "lines_from" "Net.lines_from" s_Net_lines_from f fd) (T : Txt K mg cL cN cD) : FnOk P w K mg base CX0 1 f fd ["self", "t"] (sp_lines_from cL cN) := by
  refine F.ok sc_Net_lines_from (fun vs H Q E h => ?_) (fun cdv A outer s H vs Q E hr h => ?_)
  · obtain ⟨a, s, c, L, as, ds, t, rfl, _⟩ := h
    rfl
  · obtain ⟨a, s, c, L, as, ds, t, rfl, N, q⟩ := h
    obtain ⟨dx, hn⟩ := N.net
    refine ⟨_, (pss_one (ps_ret (pe_lc (own := [("e", 2), ("line", 3)]) (g := (gTup K 2 (gCons (gName 2) (gCons (gName 3) gNil)))) (tt := (tTest (tOp rEq (tFld K (tVar 3) "start") (tVar 1)))) (te := (tVar 2)) rfl sc_Net_lines_from.nd (pi_enum (by rfl) T.enumerate (pa_cons (pe_fld (pv 0) rfl) pa_nil)) (blkOk_by (own := [("e", 2), ("line", 3)]) (N := ["self", "t", "e", "line"]) (sc := defScope s_Net_lines_from) (by decide +kernel)) (fun _ _ _ _ _ => (pg_tup (by rfl) (pgs_cons (pg_name (i := 2) sc_Net_lines_from.nd rfl (Or.inl rfl)) (pgs_cons (pg_name (i := 3) sc_Net_lines_from.nd rfl (Or.inl rfl)) pgs_nil)))) (fun _ _ _ _ _ => pts_one (pt_cmpR op_eq (pe_fld (pv 3) rfl) (pv 1) (nomark _))) (fun _ _ _ _ _ => (pv 2))))), ?_⟩
    refine ⟨_, rfl, a, cN, dx, _, _, rfl, hn, T.clN, T.nLines, netF_lines, L, _, rfl, SqL.of N.lines, fun D hD => ?_⟩
    refine lc_it (n := many s.net) (CompP H D fun i => iN ((List.range i).filter fun e => tail s.net e == t)) (comp_start hD rfl) (fun i H1 hi P => ?_) (fun H1 P => ?_) (fun i x H1 H2 hi P y => ?_) (fun H1 P => q H1 D P.2 hD P.1)
    · obtain ⟨x, d, dx', kvs, h1, _⟩ := N.at hi
      exact ⟨_, _, SqL.of (P.2 _ _ N.lines), map_at h1⟩
    · exact ⟨_, SqL.of (P.2 _ _ N.lines), by rw [List.length_map, N.alen]; exact Nat.le_refl _⟩
    · obtain ⟨U, x', rfl, hU, rfl, hx⟩ := y
      obtain ⟨xa, d, dx', kvs, h1, h2, h3, h4⟩ := N.at hi
      have e : some (V.ref xa) = some x' := (map_at (f := V.ref) h1).symm.trans (hx _ (SqL.of (P.2 _ _ N.lines)))
      cases e
      have sU : Same H1 (upd H1 U (.tup [.int (i : Int), .ref xa])) := same_upd hU
      refine ⟨U, _, rfl, SqT.of upd_same, rfl, _, _, rfl, _, _, rfl, rfl, rfl, ?_⟩
      refine ⟨_, rfl, xa, cL, dx', _, _, rfl, sU _ _ (P.2 _ _ h3), T.clL, T.nStart, lineF_start, _, rfl, rfl, _, rfl, ?_⟩
      by_cases hc : tail s.net i = t
      · refine if_true_of (decide_eq_true (by rw [hc])) ?_
        refine ⟨_, rfl, comp_yes hD P sU ?_ (small300 ?_)⟩
        · rw [filter_take_succ, if_pos (by simpa using hc)]
          simp
        · have := List.length_filter_le (fun e => tail s.net e == t) (List.range i)
          rw [List.length_range] at this
          have := N.good.m40
          simp only [List.length_map]
          omega
      · refine if_false_of (decide_eq_false fun z => hc (by have := V.int.inj z; omega)) ?_
        refine comp_no P sU ?_
        rw [filter_take_succ, if_neg (by simpa using hc)]
        simp
theorem inV_iN {d : Int} {l : List Nat} : inV (.int d) (iN l) = (decide (0 ≤ d) && l.contains d.toNat) := by
  unfold inV
  rw [List.any_map]
  by_cases h0 : 0 ≤ d
  · rw [decide_eq_true h0, Bool.true_and, List.contains_eq_any_beq]
    congr 1
    funext n
    show ((n : Int) == d) = (d.toNat == n)
    by_cases h : (n : Int) = d
    · have : d.toNat = n := by omega
      simp [h, this]
    · have h2 : ¬ d.toNat = n := by omega
      rw [beq_eq_false_iff_ne.mpr h, beq_eq_false_iff_ne.mpr h2]
  · rw [decide_eq_false h0, Bool.false_and, List.any_eq_false]
    intro n _
    show ¬ ((n : Int) == d) = true
    have : ¬ (n : Int) = d := by omega
    simp [this]
theorem flat_iN (l : List Nat) : (iN l).all flatV = true := by
  rw [List.all_map, List.all_eq_true]
  intro n _
  rfl
theorem ok_is_part {f : Addr} {fd : FuncData} (F : Fun K "is_part" "Net.is_part" s_Net_is_part f fd) (T : Txt K mg cL cN cD) (D_lines_into : MDef P w K mg base cN "lines_into" 1 ["self", "t"] (sp_lines_into cL cN)) : FnOk P w K mg base CX0 2 f fd ["self", "e", "d"] (sp_is_part cL cN) := by
  obtain ⟨f_lines_into, d_lines_into, m_lines_into, b_lines_into, G_lines_into⟩ := D_lines_into.ex
  refine F.ok sc_Net_is_part (fun vs H Q E h => ?_) (fun cdv A outer s H vs Q E hr h => ?_)
  · obtain ⟨a, s, c, L, as, ds, e, d, rfl, _⟩ := h
    rfl
  · obtain ⟨a, s, c, L, as, ds, e, d, rfl, N, he, q⟩ := h
    obtain ⟨dx, hn⟩ := N.net
    obtain ⟨xa, da, dx', kvs, h1, h2, h3, h4⟩ := N.at he
    refine ⟨_, (pss_cons (ps_set (i := 3) sc_Net_is_part.nd rfl (Or.inl rfl) (pe_fld (pe_ix ix_list (pe_fld (pv 0) rfl) (pv 1) (fun _ _ => rfl)) rfl))
        (pss_cons (ps_if (pt_cmpR op_eq (pv 3) pe_int (nomark _)) (pss_one (ps_ret (pe_and (pe_cmpR op_le pe_int (pv 2) (nomark _)) (pe_one (pe_cmpR op_lt (pv 2) (pe_fld (pv 0) rfl) (nomark _)))))) pss_nil)
        (pss_one (ps_ret (pe_cmpR op_in_seq (pv 2) (pe_meth (pv 0) T.clN m_lines_into G_lines_into (hr.mono (by decide)) b_lines_into .nil pass0 (pa_cons (pv 3) pa_nil)) rfl))))), ?_⟩
    refine ⟨_, rfl, a, cN, dx, _, _, rfl, hn, T.clN, T.nLines, netF_lines, _, rfl, L, _, _, _, rfl, rfl, SqL.of N.lines, atI_nat (map_at h1), xa, cL, dx', _, _, rfl, h3, T.clL, T.nStart, lineF_start, ?_⟩
    refine ⟨_, rfl, rfl, _, rfl, ?_⟩
    unfold isPart at q
    by_cases h0 : tail s.net e = 0
    · rw [if_pos h0] at q
      refine if_true_of (decide_eq_true (by rw [h0]; rfl)) ?_
      refine ⟨_, rfl, _, _, rfl, rfl, _, rfl, ?_⟩
      unfold Rd03.below at q
      by_cases hd : 0 ≤ d
      · refine if_true_of (decide_eq_true hd) ?_
        rw [decide_eq_true hd, Bool.true_and] at q
        exact ⟨_, rfl, _, rfl, a, cN, dx, _, _, rfl, hn, T.clN, T.nMessages, netF_messages, _, _, rfl, rfl, q _ (Same.refl _)⟩
      · refine if_false_of (decide_eq_false hd) ?_
        rw [decide_eq_false hd, Bool.false_and] at q
        exact q _ (Same.refl _)
    · rw [if_neg h0] at q
      refine if_false_of (decide_eq_false fun z => h0 (by have := V.int.inj z; omega)) ?_
      refine ⟨_, rfl, _, rfl, a, dx, _, rfl, hn, netF_no (by decide +kernel) (by decide +kernel) (by decide +kernel) (by decide +kernel), _, rfl, a, s, c, L, as, ds, tail s.net e, rfl, N, fun H1 p S1 hp hl => ?_⟩
      refine ⟨p, _, rfl, .inl (SqL.of hl), rfl, flat_iN _, ?_⟩
      show Q (.bl (inV (.int d) (iN (into s.net (tail s.net e))))) H1
      have : inV (.int d) (iN (into s.net (tail s.net e))) = (Rd03.below d (many s.net) && decide (head s.net d.toNat = tail s.net e)) := by
        rw [inV_iN]
        unfold Rd03.below
        by_cases hd : 0 ≤ d
        · rw [decide_eq_true hd, Bool.true_and, Bool.true_and]
          by_cases hm : d.toNat ∈ into s.net (tail s.net e)
          · obtain ⟨m1, m2⟩ := mem_into.mp hm
            rw [decide_eq_true m2, decide_eq_true (show d < (many s.net : Int) by omega)]
            simpa using hm
          · have e1 : (into s.net (tail s.net e)).contains d.toNat = false := by simpa using hm
            rw [e1]
            symm
            rw [Bool.and_eq_false_iff]
            by_cases m1 : d < (many s.net : Int)
            · exact .inr (decide_eq_false fun m2 => hm (mem_into.mpr ⟨by omega, m2⟩))
            · exact .inl (decide_eq_false m1)
        · rw [decide_eq_false hd, Bool.false_and, Bool.false_and, Bool.false_and]
      rw [this]
      exact q _ S1
end
end NM
namespace NM
set_option maxRecDepth 100000
set_option maxHeartbeats 4000000
open PySem L2
open Rd03 (Net Abs tail head many into entry vec)
section
variable {P : Program} {w : World} {K : PySem.W.Frag} {mg : Str → Option Value} {base : Heap} {cL cN cD : Addr}
theorem range2_all {n : Nat} (h2 : 2 ≤ n) : ((List.range (n - 2)).map fun (i : Nat) => !decide ((n : Int) % (2 + (i : Int)) = 0)).all id = Rd03.prime n := by
  rw [Bool.eq_iff_iff, prime_iff, List.all_map, List.all_eq_true]
  constructor
  · intro h
    refine ⟨h2, fun d hd hl e => ?_⟩
    have := h (d - 2) (List.mem_range.mpr (by omega))
    have e2 : (2 : Int) + ((d - 2 : Nat) : Int) = (d : Int) := by omega
    simp only [Function.comp, id, Bool.not_eq_true', decide_eq_false_iff_not] at this
    rw [e2] at this
    exact this (by omega)
  · rintro ⟨_, h⟩ i hi
    have hi := List.mem_range.mp hi
    simp only [Function.comp, id, Bool.not_eq_true', decide_eq_false_iff_not]
    intro e
    refine h (2 + i) (by omega) (by omega) ?_
    have e2 : (2 : Int) + (i : Int) = ((2 + i : Nat) : Int) := by omega
    rw [e2] at e
    omega
theorem ok_is_prime {f : Addr} {fd : FuncData} (F : Fun K "is_prime" "is_prime" s_is_prime f fd) (T : Txt K mg cL cN cD) : FnOk P w K mg base CX0 1 f fd ["number"] sp_is_prime := by
  refine F.ok sc_is_prime (fun vs H Q E h => ?_) (fun cdv A outer s H vs Q E hr h => ?_)
  · obtain ⟨n, rfl, _⟩ := h
    rfl
  · obtain ⟨n, rfl, q⟩ := h
    refine ⟨_, (pss_cons (ps_if (PW.pt (pw_or (pt_cmpR op_lt (pv 0) (pe_gint T.cLEAST_PRIME rfl) (nomark _)) (pw_or1 (pt_cmpR op_gt (pv 0) (pe_gint T.cGREATEST_PRIME rfl) (nomark _))))) (pss_one (ps_ret pe_bl)) pss_nil)
        (pss_one (ps_ret (pe_callB (cr_all rfl) (by rfl) T.all (by decide +kernel) (pa_cons (pe_lc (own := [("factor", 1)]) (g := (gName 1)) (tt := tYes) (te := (tOp rNe (tOp (rI (fun _ j => 0 < j) fun i j => .int (i % j)) (tVar 0) (tVar 1)) (tC (.int 0)))) rfl sc_is_prime.nd (pi_range2 (by rfl) T.range (pa_cons pe_int (pa_cons (pv 0) pa_nil))) (blkOk_by (own := [("factor", 1)]) (N := ["number", "factor"]) (sc := defScope s_is_prime) (by decide +kernel)) (fun _ _ _ _ _ => (pg_name (i := 1) sc_is_prime.nd rfl (Or.inl rfl))) (fun _ _ _ _ _ => pts_nil) (fun _ _ _ _ _ => (pe_cmpR op_ne (pe_op op_mod (pv 0) (pv 1)) pe_int (nomark _)))) pa_nil))))), ?_⟩
    refine ⟨_, rfl, _, _, rfl, rfl, _, rfl, ?_⟩
    by_cases h1 : n < 2
    · refine if_true_of (decide_eq_true h1) ?_
      refine if_true_of rfl ?_
      rw [decide_eq_false (show ¬ 2 ≤ n by omega), Bool.false_and, Bool.false_and] at q
      exact q _ (Same.refl _)
    · refine if_false_of (decide_eq_false h1) ?_
      refine ⟨_, rfl, _, _, rfl, rfl, _, rfl, ?_⟩
      by_cases h2 : n > 251
      · refine if_true_of (decide_eq_true h2) ?_
        rw [decide_eq_false (show ¬ n ≤ 251 by omega), Bool.and_false, Bool.false_and] at q
        exact q _ (Same.refl _)
      · refine if_false_of (decide_eq_false h2) ?_
        rw [decide_eq_true (show 2 ≤ n by omega), decide_eq_true (show n ≤ 251 by omega), Bool.true_and, Bool.true_and] at q
        obtain ⟨m, rfl⟩ : ∃ m : Nat, n = (m : Int) := ⟨n.toNat, by omega⟩
        refine ⟨_, rfl, 2, _, rfl, ⟨by omega, by omega, by omega, by omega⟩, fun D hD => ?_⟩
        refine lc_it (n := ((m : Int) - 2).toNat) (CompP H D fun i => ((List.range i).map fun (i : Nat) => !decide ((m : Int) % (2 + (i : Int)) = 0)).map V.bl) (comp_start hD rfl) (fun i H1 hi P => hi) (fun H1 P => Nat.le_refl _) (fun i x H1 H2 hi P y => ?_) (fun H1 P => ?_)
        · obtain ⟨rfl, rfl⟩ := y
          refine ⟨rfl, ?_⟩
          refine ⟨_, rfl, _, rfl, _, _, rfl, rfl, (by show (0 : Int) < 2 + (i : Int); omega), rfl, ?_⟩
          refine comp_yes hD P (Same.refl _) ?_ (small300 ?_)
          · rw [List.range_succ, List.map_append, List.map_append]
            congr 1
            show [V.bl (!decide ((m : Int) % (2 + (i : Int)) = 0))] = [V.bl (!decide (V.int ((m : Int) % (2 + (i : Int))) = V.int 0))]
            congr 3
            by_cases e : (m : Int) % (2 + (i : Int)) = 0
            · rw [decide_eq_true e, decide_eq_true (by rw [e])]
            · rw [decide_eq_false e, decide_eq_false fun z => e (V.int.inj z)]
          · simp only [List.length_map, List.length_range]
            omega
        · have e2 : ((m : Int) - 2).toNat = m - 2 := by omega
          refine ⟨D, _, rfl, SqL.of P.1, ?_⟩
          rw [e2, range2_all (by omega)]
          exact q _ P.2
theorem filter_range'_succ {p : Nat → Bool} (a i : Nat) : (List.range' a (i + 1)).filter p = (List.range' a i).filter p ++ (if p (a + i) then [a + i] else []) := by
  rw [List.range'_1_concat, List.filter_append]
  congr 1
  by_cases h : p (a + i) <;> simp [h]
theorem ok_inverse_of {f : Addr} {fd : FuncData} (F : Fun K "inverse_of" "inverse_of" s_inverse_of f fd) (T : Txt K mg cL cN cD) : FnOk P w K mg base CX0 1 f fd ["number", "p"] sp_inverse_of := by
  refine F.ok sc_inverse_of (fun vs H Q E h => ?_) (fun cdv A outer s H vs Q E hr h => ?_)
  · obtain ⟨a, p, rfl, _⟩ := h
    rfl
  · obtain ⟨a, p, rfl, ha, hp2, hp, hne, q⟩ := h
    refine ⟨_, (pss_one (ps_ret (pe_ix ix_list (pe_lc (own := [("other", 2)]) (g := (gName 2)) (tt := (tTest (tOp rEq (tOp (rI (fun _ j => 0 < j) fun i j => .int (i % j)) (tOp (rI CMul fun i j => .int (i * j)) (tVar 0) (tVar 2)) (tVar 1)) (tC (.int 1))))) (te := (tVar 2)) rfl sc_inverse_of.nd (pi_range2 (by rfl) T.range (pa_cons pe_int (pa_cons (pv 1) pa_nil))) (blkOk_by (own := [("other", 2)]) (N := ["number", "p", "other"]) (sc := defScope s_inverse_of) (by decide +kernel)) (fun _ _ _ _ _ => (pg_name (i := 2) sc_inverse_of.nd rfl (Or.inl rfl))) (fun _ _ _ _ _ => pts_one (pt_cmpR op_eq (pe_op op_mod (pe_op op_mul (pv 0) (pv 2)) (pv 1)) pe_int (nomark _))) (fun _ _ _ _ _ => (pv 2))) pe_int (fun _ _ => rfl)))), ?_⟩
    refine ⟨_, rfl, 1, _, rfl, ⟨by omega, by omega, by omega, by omega⟩, fun D hD => ?_⟩
    refine lc_it (n := ((p : Int) - 1).toNat) (CompP H D fun i => iN ((List.range' 1 i).filter fun o => a * o % p == 1)) (comp_start hD rfl) (fun i H1 hi P => hi) (fun H1 P => Nat.le_refl _) (fun i x H1 H2 hi P y => ?_) (fun H1 P => ?_)
    · obtain ⟨rfl, rfl⟩ := y
      refine ⟨rfl, ?_⟩
      refine ⟨_, rfl, _, rfl, _, _, rfl, rfl, .inl ⟨by omega, by omega⟩, _, rfl, _, _, rfl, rfl, (by show (0 : Int) < (p : Int); omega), rfl, _, rfl, ?_⟩
      have e1 : (a : Int) * (1 + (i : Int)) % (p : Int) = ((a * (1 + i) % p : Nat) : Int) := by push_cast; rfl
      by_cases hc : a * (1 + i) % p = 1
      · refine if_true_of (decide_eq_true (by show V.int ((a : Int) * (1 + (i : Int)) % (p : Int)) = V.int 1; rw [e1, hc]; rfl)) ?_
        refine ⟨_, rfl, comp_yes hD P (Same.refl _) ?_ (small300 ?_)⟩
        · rw [filter_range'_succ, if_pos (by simpa using hc), iN_append]
          congr 1
        · have := List.length_filter_le (fun o => a * o % p == 1) (List.range' 1 i)
          rw [List.length_range'] at this
          simp only [List.length_map]
          omega
      · refine if_false_of (decide_eq_false fun z => hc (by have z : (a : Int) * (1 + (i : Int)) % (p : Int) = 1 := V.int.inj z; rw [e1] at z; omega)) ?_
        refine comp_no P (Same.refl _) ?_
        rw [filter_range'_succ, if_neg (by simpa using hc), List.append_nil]
    · have e2 : ((p : Int) - 1).toNat = p - 1 := by omega
      obtain ⟨P1, P2⟩ := P
      rw [e2] at P1
      have P1 : H1 D = some (.lst (iN (invCands p a))) := P1
      have hg : (invCands p a)[0]? = some (invOf p a) := by
        unfold invOf
        cases h : invCands p a with
        | nil => exact absurd h hne
        | cons x r => rfl
      exact ⟨D, _, _, _, rfl, rfl, SqL.of P1, atI_nat (j := 0) (iN_at hg), q _ P2⟩
theorem ok_added {f : Addr} {fd : FuncData} (F : Fun K "added" "added" s_added f fd) (T : Txt K mg cL cN cD) : FnOk P w K mg base CX0 1 f fd ["one", "other", "times", "p"] sp_added := by
  refine F.ok sc_added (fun vs H Q E h => ?_) (fun cdv A outer s H vs Q E hr h => ?_)
  · obtain ⟨a, b, xs, ys, t, p, rfl, _⟩ := h
    rfl
  · obtain ⟨a, b, xs, ys, t, p, rfl, ha, hb, hl, h40, hp, ht, q⟩ := h
    refine ⟨_, (pss_one (ps_ret (pe_lc (own := [("a", 4), ("b", 5)]) (g := (gTup K 2 (gCons (gName 4) (gCons (gName 5) gNil)))) (tt := tYes) (te := (tOp (rI (fun _ j => 0 < j) fun i j => .int (i % j)) (tOp (rI0 fun i j => .int (i + j)) (tVar 4) (tOp (rI CMul fun i j => .int (i * j)) (tVar 2) (tVar 5))) (tVar 3))) rfl sc_added.nd (pi_zip (by rfl) T.zip (pa_cons (pv 0) (pa_cons (pv 1) pa_nil))) (blkOk_by (own := [("a", 4), ("b", 5)]) (N := ["one", "other", "times", "p", "a", "b"]) (sc := defScope s_added) (by decide +kernel)) (fun _ _ _ _ _ => (pg_tup (by rfl) (pgs_cons (pg_name (i := 4) sc_added.nd rfl (Or.inl rfl)) (pgs_cons (pg_name (i := 5) sc_added.nd rfl (Or.inl rfl)) pgs_nil)))) (fun _ _ _ _ _ => pts_nil) (fun _ _ _ _ _ => (pe_op op_mod (pe_op op_add (pv 4) (pe_op op_mul (pv 2) (pv 5))) (pv 3)))))), ?_⟩
    refine ⟨_, rfl, _, rfl, a, b, _, _, rfl, SqL.of ha, SqL.of hb, fun D hD => ?_⟩
    have hx : ∀ i, i < xs.length → ∃ x y, xs[i]? = some x ∧ ys[i]? = some y := fun i hi => ⟨xs[i], ys[i], List.getElem?_eq_getElem hi, List.getElem?_eq_getElem (by omega)⟩
    refine lc_it (n := xs.length) (CompP H D fun i => iN ((added p xs ys t).take i)) (comp_start hD rfl) (fun i H1 hi P => ?_) (fun H1 P => ?_) (fun i x H1 H2 hi P y => ?_) (fun H1 P => ?_)
    · obtain ⟨x, y, e1, e2⟩ := hx i hi
      exact ⟨_, _, _, _, SqL.of (P.2 _ _ ha), SqL.of (P.2 _ _ hb), iN_at e1, iN_at e2⟩
    · exact ⟨_, _, SqL.of (P.2 _ _ ha), SqL.of (P.2 _ _ hb), .inl (by rw [List.length_map]; exact Nat.le_refl _)⟩
    · obtain ⟨U, x', y', rfl, hU, rfl, f1, f2⟩ := y
      obtain ⟨x, y, e1, e2⟩ := hx i hi
      have g1 := (iN_at e1).symm.trans (f1 _ (SqL.of (P.2 _ _ ha)))
      have g2 := (iN_at e2).symm.trans (f2 _ (SqL.of (P.2 _ _ hb)))
      cases g1
      cases g2
      have sU : Same H1 (upd H1 U (.tup [.int (x : Int), .int (y : Int)])) := same_upd hU
      refine ⟨U, _, rfl, SqT.of upd_same, rfl, _, _, rfl, _, _, rfl, rfl, rfl, ?_⟩
      refine ⟨_, rfl, _, rfl, _, rfl, _, _, rfl, rfl, .inl ⟨by omega, by omega⟩, _, _, rfl, rfl, _, rfl, _, _, rfl, rfl, (by show (0 : Int) < (p : Int); omega), ?_⟩
      refine comp_yes hD P sU ?_ (small300 ?_)
      · have : (added p xs ys t)[i]? = some ((x + t * y) % p) := by
          unfold added
          rw [List.getElem?_zipWith, e1, e2]
        rw [take_more this, iN_append]
        congr 1
      · simp only [List.length_map, List.length_take]
        omega
    · have : (added p xs ys t).take xs.length = added p xs ys t := List.take_of_length_le (by unfold added; rw [List.length_zipWith]; omega)
      have P1 : H1 D = some (.lst (iN ((added p xs ys t).take xs.length))) := P.1
      rw [this] at P1
      exact q H1 D P.2 hD P1
end
end NM
namespace NM
set_option maxRecDepth 100000
set_option maxHeartbeats 4000000
open PySem L2
open Rd03 (Net Abs tail head many into entry vec)
section
variable {P : Program} {w : World} {K : PySem.W.Frag} {mg : Str → Option Value} {base : Heap} {cL cN cD : Addr}
theorem fold_len {p h : Nat} {g : Nat → Nat} {v : Nat → List Nat} : ∀ (l : List Nat) (f : List Nat), f.length = h → (∀ d, (v d).length = h) → (l.foldl (fun f d => added p f (v d) (g d)) f).length = h
  | [], _, hf, _ => hf
  | d :: l, f, hf, hv => fold_len l _ (by unfold added; rw [List.length_zipWith, hf, hv d, Nat.min_self]) hv
theorem ok_vector_from_messages {f : Addr} {fd : FuncData} (F : Fun K "vector_from_messages" "vector_from_messages" s_vector_from_messages f fd) (T : Txt K mg cL cN cD) (D_amount : MDef P w K mg base cL "amount" 1 ["self", "d"] (sp_amount cL)) :
    FnOk P w K mg base CX0 2 f fd ["net", "line"] (sp_vector_from_messages cL cN) := by
  obtain ⟨f_amount, d_amount, m_amount, b_amount, G_amount⟩ := D_amount.ex
  refine F.ok sc_vector_from_messages (fun vs H Q E h => ?_) (fun cdv A outer s H vs Q E hr h => ?_)
  · obtain ⟨a, s, c, L, as, ds, e, x, rfl, _⟩ := h
    rfl
  · obtain ⟨a, s, c, L, as, ds, e, x, rfl, N, hx, h0, q⟩ := h
    obtain ⟨dx, hn⟩ := N.net
    have he : e < many s.net := by
      rw [← N.alen]
      exact (List.getElem?_eq_some_iff.mp hx).1
    obtain ⟨xa, da, dx', kvs, h1, h2, h3, h4, h5, h6⟩ := N.at he
    obtain rfl : xa = x := Option.some.inj (h1.symm.trans hx)
    refine ⟨_, (pss_one (ps_ret (pe_lc (own := [("d", 2)]) (g := (gName 2)) (tt := tYes) (te := (tMeth cL "amount" (sp_amount cL) [] E0 (tVar 1) (tCons (tVar 2) tNil))) rfl sc_vector_from_messages.nd (pi_range1 (by rfl) T.range (pa_cons (pe_fld (pv 0) rfl) pa_nil)) (blkOk_by (own := [("d", 2)]) (N := ["net", "line", "d"]) (sc := defScope s_vector_from_messages) (by decide +kernel)) (fun _ _ _ _ _ => (pg_name (i := 2) sc_vector_from_messages.nd rfl (Or.inl rfl))) (fun _ _ _ _ _ => pts_nil) (fun _ _ _ _ _ => (pe_meth (pv 1) T.clL m_amount G_amount (hr.mono (by decide)) b_amount .nil pass0 (pa_cons (pv 2) pa_nil)))))), ?_⟩
    have h8 := N.good.h8
    refine ⟨_, rfl, a, cN, dx, _, _, rfl, hn, T.clN, T.nMessages, netF_messages, _, rfl, by omega, by omega, fun D hD => ?_⟩
    refine lc_it (n := ((s.h : Nat) : Int).toNat) (CompP H D fun i => iN ((vec s.net s.p s.h s.mix e).take i)) (comp_start hD rfl) (fun i H1 hi P => hi) (fun H1 P => Nat.le_refl _) (fun i y H1 H2 hi P z => ?_) (fun H1 P => ?_)
    · obtain ⟨rfl, rfl⟩ := z
      have hi : i < s.h := by omega
      refine ⟨rfl, ?_⟩
      have e0 : ((0 : Int) + (i : Int)) = (i : Int) := by omega
      refine ⟨_, rfl, xa, dx', _, rfl, P.2 _ _ h3, lineF_no (by decide +kernel) (by decide +kernel) (by decide +kernel), _, rfl, xa, dx', _, _, da, kvs, i, by rw [e0]; rfl, P.2 _ _ h3, P.2 _ _ h4, ?_⟩
      rw [h6 i (by omega)]
      refine comp_yes hD P (Same.refl _) ?_ (small300 ?_)
      · have : (vec s.net s.p s.h s.mix e)[i]? = some (entry s.mix e i) := by
          rw [vec_zero h0, List.getElem?_map, List.getElem?_range hi]
          show some (entry s.mix e i % s.p) = _
          rw [Nat.mod_eq_of_lt (N.good.lt e i)]
        rw [take_more this, iN_append]
        rfl
      · simp only [List.length_map, List.length_take]
        omega
    · have P1 : H1 D = some (.lst (iN ((vec s.net s.p s.h s.mix e).take ((s.h : Nat) : Int).toNat))) := P.1
      rw [List.take_of_length_le (by rw [vec_len]; omega)] at P1
      exact q H1 D P.2 hD P1
theorem ok_vector_from_lines {f : Addr} {fd : FuncData} (F : Fun K "vector_from_lines" "vector_from_lines" s_vector_from_lines f fd) (T : Txt K mg cL cN cD) (D_amount : MDef P w K mg base cL "amount" 1 ["self", "d"] (sp_amount cL))
    (D_lines_into : MDef P w K mg base cN "lines_into" 1 ["self", "t"] (sp_lines_into cL cN)) (D_added : Def P w K mg base "added" 1 ["one", "other", "times", "p"] sp_added) :
    FnOk P w K mg base CX0 2 f fd ["net", "line", "told"] (sp_vector_from_lines cL cN) := by
  obtain ⟨f_amount, d_amount, m_amount, b_amount, G_amount⟩ := D_amount.ex
  obtain ⟨f_lines_into, d_lines_into, m_lines_into, b_lines_into, G_lines_into⟩ := D_lines_into.ex
  obtain ⟨f_added, d_added, g_added, k_added, b_added, G_added⟩ := D_added.ex
  refine F.ok sc_vector_from_lines (fun vs H Q E h => ?_) (fun cdv A outer s H vs Q E hr h => ?_)
  · obtain ⟨a, s, c, L, as, ds, e, x, td, c', rfl, _⟩ := h
    rfl
  · obtain ⟨a, s, c, L, as, ds, e, x, td, c', rfl, N, hx, h0, TD, q⟩ := h
    obtain ⟨dx, hn⟩ := N.net
    have he : e < many s.net := by
      rw [← N.alen]
      exact (List.getElem?_eq_some_iff.mp hx).1
    obtain ⟨xa, da, dx', kvs, h1, h2, h3, h4, h5, h6⟩ := N.at he
    obtain rfl : xa = x := Option.some.inj (h1.symm.trans hx)
    have h8 := N.good.h8
    have hp2 := N.good.p2
    have hp := N.good.p251
    obtain ⟨tk, t1, t2, t3⟩ := TD
    refine ⟨_, (pss_cons (ps_set (i := 3) sc_vector_from_lines.nd rfl (Or.inl rfl) (pe_op op_rep (pe_lst (pa_cons pe_int pa_nil)) (pe_fld (pv 0) rfl)))
        (pss_cons (ps_for PassesOwn.never rfl (pi_list (pe_meth (pv 0) T.clN m_lines_into G_lines_into (hr.mono (by decide)) b_lines_into .nil pass0 (pa_cons (pe_fld (pv 1) rfl) pa_nil))) (pg_name (i := 4) sc_vector_from_lines.nd rfl (Or.inl rfl)) (pss_one (ps_set (i := 3) sc_vector_from_lines.nd rfl (Or.inl rfl) (pe_call G_added (hr.mono (by decide)) (by rfl) g_added k_added b_added .nil pass0 (pa_cons (pv 3) (pa_cons (pe_dget (hu_of hr) (pv 2) (pv 4) (fun _ _ => rfl)) (pa_cons (pe_meth (pv 1) T.clL m_amount G_amount (hr.mono (by decide)) b_amount .nil pass0 (pa_cons (pv 4) pa_nil)) (pa_cons (pe_fld (pv 0) rfl) pa_nil))))))))
        (pss_one (ps_ret (pv 3))))), ?_⟩
    -- found = [0] * net.messages
    refine ⟨by show 1 ≤ sizeLine; decide, fun l0 hl0 => ?_⟩
    have S0 : Same H (upd H l0 (.lst [.int 0])) := same_upd hl0
    refine ⟨_, rfl, a, cN, dx, _, _, rfl, S0 _ _ hn, T.clN, T.nMessages, netF_messages, l0, _, _, rfl, rfl, upd_same, by omega, by omega, small300' (by simp only [List.length_cons, List.length_nil]; omega), fun l1 hl1 => ?_⟩
    have S1 : Same H (upd (upd H l0 (.lst [.int 0])) l1 (.lst (List.replicate (((s.h : Nat) : Int).toNat) [V.int 0]).flatten)) := S0.trans (same_upd hl1)
    have hl1' : H l1 = none := S0.free hl1
    have e1 : (List.replicate (((s.h : Nat) : Int).toNat) [V.int 0]).flatten = iN (List.replicate s.h 0) := by
      have : ((s.h : Nat) : Int).toNat = s.h := by omega
      rw [this]
      generalize s.h = n
      induction n with
      | zero => rfl
      | succ n ih =>
        rw [List.replicate_succ, List.flatten_cons, ih, List.replicate_succ]
        rfl
    -- for d in net.lines_into(line.start)
    refine ⟨_, rfl, a, dx, _, rfl, S1 _ _ hn, netF_no (by decide +kernel) (by decide +kernel) (by decide +kernel) (by decide +kernel), _, rfl, xa, cL, dx', _, _, rfl, S1 _ _ h3, T.clL, T.nStart, lineF_start, a, s, c, L, as, ds, tail s.net e, rfl, N.same S1, fun H2 li S2 hli hL2 => ?_⟩
    have S2' := S1.trans S2
    refine ⟨li, rfl, ⟨_, SqL.of hL2⟩, ?_⟩
    have hmem : ∀ (i d : Nat), (into s.net (tail s.net e))[i]? = some d → d ∈ into s.net (tail s.net e) := fun i d h => List.mem_of_getElem? h
    refine for_it (n := (into s.net (tail s.net e)).length) (fun i σ H' => ∃ (fa : Addr) (v : Option V), σ = [some (.ref a), some (.ref xa), some (.ref td), some (.ref fa), v] ∧ Same H H' ∧ H fa = none ∧
        H' fa = some (.lst (iN (((into s.net (tail s.net e)).take i).foldl (fun f d => added s.p f (vec s.net s.p s.h s.mix d) (entry s.mix e d)) (List.replicate s.h 0)))) ∧ H' li = some (.lst (iN (into s.net (tail s.net e))))) ?_ ?_ ?_ ?_ ?_
    · exact ⟨l1, none, rfl, S2', hl1', S2 _ _ (by rw [upd_same, e1]; rfl), hL2⟩
    · rintro i σ H' hi ⟨fa, v, rfl, S, _, _, hl⟩
      exact ⟨_, _, SqL.of hl, iN_at (List.getElem?_eq_getElem hi)⟩
    · rintro σ H' ⟨fa, v, rfl, S, _, _, hl⟩
      exact ⟨_, SqL.of hl, by rw [iN_len]; exact Nat.le_refl _⟩
    · rintro i y σ H' H'' hi ⟨fa, v, rfl, S, nfa, hfa, hl⟩ ⟨rfl, hy⟩
      obtain ⟨d, hd, rfl⟩ := iN_get (hy _ (SqL.of hl))
      have hdm := hmem i d hd
      obtain ⟨hdl, hdh⟩ := mem_into.mp hdm
      obtain ⟨b, tb1, tb2⟩ := t3 d hdm
      have h40 := N.good.m40
      have hlt := N.good.lt e d
      -- found = added(found, told[d], line.amount(d), net.p)
      refine ⟨_, rfl, _, rfl, _, rfl, td, .ref b, rfl, dget_of (S _ _ t1) tb1, _, rfl, xa, dx', _, rfl, S _ _ h3, lineF_no (by decide +kernel) (by decide +kernel) (by decide +kernel), _, rfl, xa, dx', _, _, da, kvs, d, rfl, S _ _ h3, S _ _ h4, ?_⟩
      rw [h6 d (by omega)]
      refine ⟨_, rfl, a, cN, dx, _, _, rfl, S _ _ hn, T.clN, T.nP, netF_p, fa, b, _, _, entry s.mix e d, s.p, rfl, hfa, S _ _ tb2, ?_, ?_, by omega, by omega, ?_⟩
      · rw [vec_len]
        exact fold_len _ _ (by simp) fun d => vec_len
      · rw [fold_len _ _ (by simp) fun d => vec_len]
        omega
      intro H3 l3 S3 n3 hl3
      refine ⟨l3, _, rfl, S.trans S3, S.free n3, ?_, S3 _ _ hl⟩
      rw [take_more hd, List.foldl_append]
      exact hl3
    · rintro σ H' ⟨fa, v, rfl, S, nfa, hfa, hl⟩
      rw [List.take_length, ← vec_fold N.good.net he h0] at hfa
      exact ⟨_, rfl, q H' fa S nfa hfa⟩
end
end NM
namespace NM
set_option maxRecDepth 100000
set_option maxHeartbeats 4000000
open PySem L2
open Rd03 (Net Abs tail head many into entry vec)
section
variable {P : Program} {w : World} {K : PySem.W.Frag} {mg : Str → Option Value} {base : Heap} {cL cN cD : Addr}
/-- one vector more is told -/
theorem ToldAt.put {H : Hp} {p b : Addr} {s : Abs} {c e : Nat} {ok ok' : Nat → Prop} {kvs : List (Key × V)} (h1 : H p = some (.dK kvs)) (h2 : kvs.length ≤ c) (h3 : ∀ e : Nat, ok e → ∃ b, valV kvs (Sum.inl (e : Int)) = some (.ref b) ∧ H b = some (.lst (iN (vec s.net s.p s.h s.mix e))))
    (hb : H b = some (.lst (iN (vec s.net s.p s.h s.mix e)))) (hok : ∀ d, ok' d → ok d ∨ d = e) : ToldAt (upd H p (.dK (putK kvs (Sum.inl (e : Int)) (.ref b)))) p s (c + 1) ok' := by
  refine ⟨_, upd_same, Nat.le_trans (length_putK _ _ _) (Nat.succ_le_succ h2), fun d hd => ?_⟩
  have nb : ∀ {x : Addr} {l : List V}, H x = some (.lst l) → x ≠ p := fun hx => ne_of hx h1 (by intro z; cases z)
  by_cases hde : d = e
  · subst hde
    exact ⟨b, by rw [valV_put, if_pos rfl], by rw [upd_ne (nb hb)]; exact hb⟩
  · rcases hok d hd with o | o
    · obtain ⟨b', g1, g2⟩ := h3 d o
      refine ⟨b', ?_, by rw [upd_ne (nb g2)]; exact g2⟩
      rw [valV_put, if_neg (fun z => hde (by have := Sum.inl.inj z; omega))]
      exact g1
    · exact absurd o hde
theorem fromN_len (N : Net) (t : Nat) : (fromN N t).length ≤ many N := by
  unfold fromN
  exact Nat.le_trans (List.length_filter_le ..) (by simp)
theorem into_len (N : Net) (t : Nat) : (into N t).length ≤ many N := by
  unfold into
  exact Nat.le_trans (List.length_filter_le ..) (by simp)
theorem ok_all_vectors {f : Addr} {fd : FuncData} (F : Fun K "all_vectors" "all_vectors" s_all_vectors f fd) (T : Txt K mg cL cN cD) (D_lines_from : MDef P w K mg base cN "lines_from" 1 ["self", "t"] (sp_lines_from cL cN))
    (D_vfl : Def P w K mg base "vector_from_lines" 2 ["net", "line", "told"] (sp_vector_from_lines cL cN)) (D_vfm : Def P w K mg base "vector_from_messages" 2 ["net", "line"] (sp_vector_from_messages cL cN)) :
    FnOk P w K mg base CX0 3 f fd ["net"] (sp_all_vectors cL cN) := by
  obtain ⟨f_lines_from, d_lines_from, m_lines_from, b_lines_from, G_lines_from⟩ := D_lines_from.ex
  obtain ⟨f_vector_from_lines, d_vector_from_lines, g_vector_from_lines, k_vector_from_lines, b_vector_from_lines, G_vector_from_lines⟩ := D_vfl.ex
  obtain ⟨f_vector_from_messages, d_vector_from_messages, g_vector_from_messages, k_vector_from_messages, b_vector_from_messages, G_vector_from_messages⟩ := D_vfm.ex
  refine F.ok sc_all_vectors (fun vs H Q E h => ?_) (fun cdv A outer s H vs Q E hr h => ?_)
  · obtain ⟨a, s, c, L, as, ds, rfl, _⟩ := h
    rfl
  · obtain ⟨a, s, c, L, as, ds, rfl, N, q⟩ := h
    obtain ⟨dx, hn⟩ := N.net
    have n16 := N.good.n16
    have m40 := N.good.m40
    refine ⟨_, (pss_cons (ps_set (i := 1) sc_all_vectors.nd rfl (Or.inl rfl) pe_dnewK)
        (pss_cons (ps_for PassesOwn.never rfl (pi_range1 (by rfl) T.range (pa_cons (pe_fld (pv 0) rfl) pa_nil)) (pg_name (i := 2) sc_all_vectors.nd rfl (Or.inl rfl)) (pss_one (ps_for PassesOwn.never rfl (pi_list (pe_meth (pv 0) T.clN m_lines_from G_lines_from (hr.mono (by decide)) b_lines_from .nil pass0 (pa_cons (pv 2) pa_nil))) (pg_name (i := 3) sc_all_vectors.nd rfl (Or.inl rfl)) (pss_one (ps_if (pt_cmpR op_eq (pv 2) pe_int (nomark _)) (pss_one (ps_dput (hu_of hr) (pv 1) (pv 3) (pe_call G_vector_from_messages (hr.mono (by decide)) (by rfl) g_vector_from_messages k_vector_from_messages b_vector_from_messages .nil pass0 (pa_cons (pv 0) (pa_cons (pe_ix ix_list (pe_fld (pv 0) rfl) (pv 3) (fun _ _ => rfl)) pa_nil))) rfl)) (pss_one (ps_dput (hu_of hr) (pv 1) (pv 3) (pe_call G_vector_from_lines (hr.mono (by decide)) (by rfl) g_vector_from_lines k_vector_from_lines b_vector_from_lines .nil pass0 (pa_cons (pv 0) (pa_cons (pe_ix ix_list (pe_fld (pv 0) rfl) (pv 3) (fun _ _ => rfl)) (pa_cons (pv 1) pa_nil)))) rfl)))))))
        (pss_one (ps_ret (pv 1))))), ?_⟩
    intro p hp
    have S0 : Same H (upd H p (.dK [])) := same_upd hp
    refine ⟨_, rfl, a, cN, dx, _, _, rfl, S0 _ _ hn, T.clN, T.nNodes, netF_nodes, _, rfl, by omega, by omega, ?_⟩
    refine for_it (n := ((s.net.n : Nat) : Int).toNat) (fun t σ H' => ∃ v2 v3 : Option V, σ = [some (.ref a), some (.ref p), v2, v3] ∧ Same H H' ∧ ToldAt H' p s (40 * t) (fun e => e < many s.net ∧ tail s.net e < t)) ?_ (fun i σ H' hi _ => hi) (fun σ H' _ => Nat.le_refl _) ?_ ?_
    · exact ⟨none, none, rfl, S0, [], upd_same, Nat.le_refl _, fun e h => absurd h.2 (Nat.not_lt_zero _)⟩
    · rintro t y σ H1 H1' ht ⟨v2, v3, rfl, S1, TD1⟩ ⟨rfl, rfl⟩
      have htn : t < s.net.n := by omega
      have e0 : ((0 : Int) + (t : Int)) = (t : Int) := by omega
      rw [e0]
      -- for e in net.lines_from(t)
      refine ⟨_, rfl, a, dx, _, rfl, S1 _ _ hn, netF_no (by decide +kernel) (by decide +kernel) (by decide +kernel) (by decide +kernel), _, rfl, a, s, c, L, as, ds, t, rfl, N.same S1, fun H2 li S2 hli hL2 => ?_⟩
      refine ⟨li, rfl, ⟨_, SqL.of hL2⟩, ?_⟩
      have flen := fromN_len s.net t
      refine for_it (n := (fromN s.net t).length) (fun j σ H' => ∃ v3 : Option V, σ = [some (.ref a), some (.ref p), some (.int (t : Int)), v3] ∧ Same H H' ∧ ToldAt H' p s (40 * t + j) (fun e => (e < many s.net ∧ tail s.net e < t) ∨ e ∈ (fromN s.net t).take j) ∧ H' li = some (.lst (iN (fromN s.net t)))) ?_ ?_ ?_ ?_ ?_
      · refine ⟨v3, rfl, S1.trans S2, ?_, hL2⟩
        obtain ⟨kvs, t1, t2, t3⟩ := TD1.same S2
        exact ⟨kvs, t1, t2, fun e h => t3 e (by simpa using h)⟩
      · rintro j σ H' hj ⟨v3, rfl, S, TD, hl⟩
        exact ⟨_, _, SqL.of hl, iN_at (List.getElem?_eq_getElem hj)⟩
      · rintro σ H' ⟨v3, rfl, S, TD, hl⟩
        exact ⟨_, SqL.of hl, by rw [iN_len]; exact Nat.le_refl _⟩
      · rintro j y σ H' H'' hj ⟨v3, rfl, S, TD, hl⟩ ⟨rfl, hy⟩
        obtain ⟨e, he, rfl⟩ := iN_get (hy _ (SqL.of hl))
        obtain ⟨hem, het⟩ := mem_fromN.mp (List.mem_of_getElem? he)
        obtain ⟨xa, da, dx', kv, h1, h2, h3, _⟩ := N.at hem
        obtain ⟨kvs, t1, t2, t3⟩ := TD
        have hpl : ∀ {X : Hp} {l : List V}, X p = some (.dK kvs) → X li = some (.lst l) → li ≠ p := fun u1 u2 => ne_of u2 u1 (by intro z; cases z)
        refine ⟨_, rfl, rfl, _, rfl, ?_⟩
        by_cases h0 : t = 0
        · refine if_true_of (decide_eq_true (by rw [h0]; rfl)) ?_
          refine ⟨_, rfl, _, rfl, a, cN, dx, _, _, rfl, S _ _ hn, T.clN, T.nLines, netF_lines, _, rfl, L, _, _, _, rfl, rfl, SqL.of (S _ _ N.lines), atI_nat (map_at h1), a, s, c, L, as, ds, e, xa, rfl, N.same S, h1, het.trans h0, fun H3 b S3 nb hb => ?_⟩
          refine ⟨_, rfl, _, rfl, p, _, rfl, DPut.k (k := Sum.inl (e : Int)) (S3 _ _ t1) (small300 (by omega)), ?_⟩
          refine ⟨_, rfl, same_new (S.trans S3) hp, ?_, ?_⟩
          · refine ToldAt.put (ok := fun e => (e < many s.net ∧ tail s.net e < t) ∨ e ∈ (fromN s.net t).take j) (S3 _ _ t1) t2 (fun d o => ?_) hb fun d o => ?_
            · obtain ⟨b', g1, g2⟩ := t3 d o
              exact ⟨b', g1, S3 _ _ g2⟩
            · rw [take_more he, List.mem_append, List.mem_singleton] at o
              rcases o with o | o | o
              · exact .inl (.inl o)
              · exact .inl (.inr o)
              · exact .inr o
          · rw [upd_ne (hpl (S3 _ _ t1) (S3 _ _ hl))]
            exact S3 _ _ hl
        · refine if_false_of (decide_eq_false fun z => h0 (by have := V.int.inj z; omega)) ?_
          refine ⟨_, rfl, _, rfl, a, cN, dx, _, _, rfl, S _ _ hn, T.clN, T.nLines, netF_lines, _, rfl, L, _, _, _, rfl, rfl, SqL.of (S _ _ N.lines), atI_nat (map_at h1), _, rfl, a, s, c, L, as, ds, e, xa, p, 40 * t + j, rfl, N.same S, h1, by rw [het]; exact h0, ⟨kvs, t1, t2, fun d hd => ?_⟩, fun H3 b S3 nb hb => ?_⟩
          · obtain ⟨hd1, hd2⟩ := mem_into.mp hd
            have := N.good.net d hd1
            exact t3 d (.inl ⟨hd1, by omega⟩)
          refine ⟨_, rfl, _, rfl, p, _, rfl, DPut.k (k := Sum.inl (e : Int)) (S3 _ _ t1) (small300 (by omega)), ?_⟩
          refine ⟨_, rfl, same_new (S.trans S3) hp, ?_, ?_⟩
          · refine ToldAt.put (ok := fun e => (e < many s.net ∧ tail s.net e < t) ∨ e ∈ (fromN s.net t).take j) (S3 _ _ t1) t2 (fun d o => ?_) hb fun d o => ?_
            · obtain ⟨b', g1, g2⟩ := t3 d o
              exact ⟨b', g1, S3 _ _ g2⟩
            · rw [take_more he, List.mem_append, List.mem_singleton] at o
              rcases o with o | o | o
              · exact .inl (.inl o)
              · exact .inl (.inr o)
              · exact .inr o
          · rw [upd_ne (hpl (S3 _ _ t1) (S3 _ _ hl))]
            exact S3 _ _ hl
      · rintro σ H' ⟨v3, rfl, S, ⟨kvs, t1, t2, t3⟩, hl⟩
        refine ⟨_, _, rfl, S, kvs, t1, by omega, fun e h => t3 e ?_⟩
        rw [List.take_length]
        by_cases ht : tail s.net e = t
        · exact .inr (mem_fromN.mpr ⟨h.1, ht⟩)
        · exact .inl ⟨h.1, by omega⟩
    · rintro σ H' ⟨v2, v3, rfl, S, ⟨kvs, t1, t2, t3⟩⟩
      refine ⟨_, rfl, q H' p _ S ⟨kvs, t1, t2, fun e h => t3 e ⟨h, ?_⟩⟩⟩
      have := N.good.net e h
      omega
theorem ok_vector_of {f : Addr} {fd : FuncData} (F : Fun K "vector_of" "vector_of" s_vector_of f fd) (T : Txt K mg cL cN cD) (D_all : Def P w K mg base "all_vectors" 3 ["net"] (sp_all_vectors cL cN)) : FnOk P w K mg base CX0 4 f fd ["net", "e"] (sp_vector_of cL cN) := by
  obtain ⟨f_all_vectors, d_all_vectors, g_all_vectors, k_all_vectors, b_all_vectors, G_all_vectors⟩ := D_all.ex
  refine F.ok sc_vector_of (fun vs H Q E h => ?_) (fun cdv A outer s H vs Q E hr h => ?_)
  · obtain ⟨a, s, c, L, as, ds, e, rfl, _⟩ := h
    rfl
  · obtain ⟨a, s, c, L, as, ds, e, rfl, N, he, q⟩ := h
    refine ⟨_, (pss_one (ps_ret (pe_dget (hu_of hr) (pe_call G_all_vectors (hr.mono (by decide)) (by rfl) g_all_vectors k_all_vectors b_all_vectors .nil pass0 (pa_cons (pv 0) pa_nil)) (pv 1) (fun _ _ => rfl)))), ?_⟩
    refine ⟨_, rfl, a, s, c, L, as, ds, rfl, N, fun H1 p c' S1 ⟨kvs, t1, t2, t3⟩ => ?_⟩
    obtain ⟨b, g1, g2⟩ := t3 e he
    exact ⟨_, rfl, p, .ref b, rfl, dget_of t1 g1, q H1 b S1 g2⟩
theorem sum_cast : ∀ l : List Nat, (l.map fun (n : Nat) => (n : Int)).sum = ((l.sum : Nat) : Int)
  | [] => rfl
  | a :: l => by
    rw [List.map_cons, List.sum_cons, List.sum_cons, sum_cast l]
    push_cast
    rfl
theorem iN_ints (l : List Nat) : iN l = (l.map fun (n : Nat) => (n : Int)).map V.int := by
  rw [List.map_map]
  rfl
theorem ok_carried {f : Addr} {fd : FuncData} (F : Fun K "carried" "carried" s_carried f fd) (T : Txt K mg cL cN cD) (D_vec : Def P w K mg base "vector_of" 4 ["net", "e"] (sp_vector_of cL cN)) : FnOk P w K mg base CX0 5 f fd ["net", "e", "messages"] (sp_carried cL cN) := by
  obtain ⟨f_vector_of, d_vector_of, g_vector_of, k_vector_of, b_vector_of, G_vector_of⟩ := D_vec.ex
  refine F.ok sc_carried (fun vs H Q E h => ?_) (fun cdv A outer s H vs Q E hr h => ?_)
  · obtain ⟨a, s, c, L, as, ds, e, m, ms, rfl, _⟩ := h
    rfl
  · obtain ⟨a, s, c, L, as, ds, e, m, ms, rfl, N, he, hm, hml, q⟩ := h
    obtain ⟨dx, hn⟩ := N.net
    have hp2 := N.good.p2
    have hp := N.good.p251
    have h8 := N.good.h8
    refine ⟨_, (pss_one (ps_ret (pe_op op_mod (pe_callB (cr_sum rfl) (by rfl) T.sum (by decide +kernel) (pa_cons (pe_lc (own := [("times", 3), ("message", 4)]) (g := (gTup K 2 (gCons (gName 3) (gCons (gName 4) gNil)))) (tt := tYes) (te := (tOp (rI CMul fun i j => .int (i * j)) (tVar 3) (tVar 4))) rfl sc_carried.nd (pi_zip (by rfl) T.zip (pa_cons (pe_call G_vector_of (hr.mono (by decide)) (by rfl) g_vector_of k_vector_of b_vector_of .nil pass0 (pa_cons (pv 0) (pa_cons (pv 1) pa_nil))) (pa_cons (pv 2) pa_nil))) (blkOk_by (own := [("times", 3), ("message", 4)]) (N := ["net", "e", "messages", "times", "message"]) (sc := defScope s_carried) (by decide +kernel)) (fun _ _ _ _ _ => (pg_tup (by rfl) (pgs_cons (pg_name (i := 3) sc_carried.nd rfl (Or.inl rfl)) (pgs_cons (pg_name (i := 4) sc_carried.nd rfl (Or.inl rfl)) pgs_nil)))) (fun _ _ _ _ _ => pts_nil) (fun _ _ _ _ _ => (pe_op op_mul (pv 3) (pv 4)))) pa_nil)) (pe_fld (pv 0) rfl)))), ?_⟩
    refine ⟨_, rfl, _, rfl, a, s, c, L, as, ds, e, rfl, N, he, fun H1 v S1 hv => ?_⟩
    refine ⟨_, rfl, v, m, _, _, rfl, SqL.of hv, SqL.of (S1 _ _ hm), fun D hD => ?_⟩
    have vl : (vec s.net s.p s.h s.mix e).length = s.h := vec_len
    have vlt := (vec_ok (N := s.net) (h := s.h) (K := s.mix) (e := e) (show 0 < s.p by omega)).2
    generalize vec s.net s.p s.h s.mix e = ve at vl hv q vlt
    have hx : ∀ i, i < s.h → ∃ x y, ve[i]? = some x ∧ ms[i]? = some y := fun i hi => ⟨ve[i], ms[i], List.getElem?_eq_getElem (by omega), List.getElem?_eq_getElem (by omega)⟩
    refine lc_it (n := s.h) (CompP H1 D fun i => iN (((ve.zip ms).map fun z => z.1 * z.2).take i)) (comp_start hD rfl) (fun i H1 hi P => ?_) (fun H1 P => ?_) (fun i x H2 H3 hi P y => ?_) (fun H2 P => ?_)
    · obtain ⟨x, y, e1, e2⟩ := hx i hi
      exact ⟨_, _, _, _, SqL.of (P.2 _ _ hv), SqL.of (P.2 _ _ (S1 _ _ hm)), iN_at e1, iN_at e2⟩
    · exact ⟨_, _, SqL.of (P.2 _ _ hv), SqL.of (P.2 _ _ (S1 _ _ hm)), .inl (by rw [List.length_map]; omega)⟩
    · obtain ⟨U, x', y', rfl, hU, rfl, f1, f2⟩ := y
      obtain ⟨x, y, e1, e2⟩ := hx i hi
      have g1 := (iN_at e1).symm.trans (f1 _ (SqL.of (P.2 _ _ hv)))
      have g2 := (iN_at e2).symm.trans (f2 _ (SqL.of (P.2 _ _ (S1 _ _ hm))))
      cases g1
      cases g2
      have xlt := vlt x (List.mem_of_getElem? e1)
      have sU : Same H2 (upd H2 U (.tup [.int (x : Int), .int (y : Int)])) := same_upd hU
      refine ⟨U, _, rfl, SqT.of upd_same, rfl, _, _, rfl, _, _, rfl, rfl, rfl, ?_⟩
      refine ⟨_, rfl, _, rfl, _, _, rfl, rfl, .inl ⟨by omega, by omega⟩, ?_⟩
      refine comp_yes hD P sU ?_ (small300 ?_)
      · have : ((ve.zip ms).map fun z => z.1 * z.2)[i]? = some (x * y) := by
          rw [List.getElem?_map, List.getElem?_zip_eq_some (z := (x, y)) |>.mpr ⟨e1, e2⟩]
          rfl
        rw [take_more this, iN_append]
        congr 1
      · simp only [List.length_map, List.length_take]
        omega
    · have P1 : H2 D = some (.lst (iN (((ve.zip ms).map fun z => z.1 * z.2).take s.h))) := P.1
      rw [List.take_of_length_le (by rw [List.length_map, List.length_zip]; omega), iN_ints] at P1
      refine ⟨D, _, rfl, SqL.of P1, _, rfl, a, cN, dx, _, _, rfl, P.2 _ _ (S1 _ _ hn), T.clN, T.nP, netF_p, _, _, rfl, rfl, (by show (0 : Int) < (s.p : Int); omega), ?_⟩
      rw [sum_cast]
      exact q _ (S1.trans P.2)
end
end NM
namespace NM
set_option maxRecDepth 100000
set_option maxHeartbeats 4000000
open PySem L2
open Rd03 (Net Abs tail head many into entry vec)
section
variable {P : Program} {w : World} {K : PySem.W.Frag} {mg : Str → Option Value} {base : Heap} {cL cN cD : Addr}
theorem fp_some {r : List Nat} {i x : Nat} (h : r[i]? = some x) (hx : x ≠ 0) (h0 : ∀ (j y : Nat), j < i → r[j]? = some y → y = 0) : firstPlace r = some i := by
  unfold firstPlace
  obtain ⟨hi, e⟩ := List.getElem?_eq_some_iff.mp h
  rw [List.findIdx?_eq_some_iff_getElem]
  refine ⟨hi, by rw [e]; simpa using hx, fun j hj => ?_⟩
  have := h0 j _ hj (List.getElem?_eq_getElem (by omega))
  simp [this]
theorem fp_none {r : List Nat} (h0 : ∀ (j y : Nat), j < r.length → r[j]? = some y → y = 0) : firstPlace r = none := by
  unfold firstPlace
  rw [List.findIdx?_eq_none_iff]
  intro x hx
  obtain ⟨j, hj, e⟩ := List.mem_iff_getElem.mp hx
  have := h0 j x hj (by rw [List.getElem?_eq_getElem hj, e])
  simp [this]
theorem ok_first_place {f : Addr} {fd : FuncData} (F : Fun K "first_place" "first_place" s_first_place f fd) (T : Txt K mg cL cN cD) : FnOk P w K mg base CX0 1 f fd ["row"] sp_first_place := by
  refine F.ok sc_first_place (fun vs H Q E h => ?_) (fun cdv A outer s H vs Q E hr h => ?_)
  · obtain ⟨a, r, rfl, _⟩ := h
    rfl
  · obtain ⟨a, r, rfl, ha, q⟩ := h
    refine ⟨_, (pss_cons (ps_for PassesOwn.never rfl (pi_enum (by rfl) T.enumerate (pa_cons (pv 0) pa_nil)) (pg_tup (by rfl) (pgs_cons (pg_name (i := 1) sc_first_place.nd rfl (Or.inl rfl)) (pgs_cons (pg_name (i := 2) sc_first_place.nd rfl (Or.inl rfl)) pgs_nil))) (pss_one (ps_if (pt_cmpR op_ne (pv 2) pe_int (nomark _)) (pss_one (ps_ret (pv 1))) pss_nil)))
        (pss_one (ps_ret pe_non))), ?_⟩
    refine ⟨_, rfl, a, _, rfl, SqL.of ha, ?_⟩
    refine for_it (n := r.length) (fun i σ H' => ∃ v1 v2 : Option V, σ = [some (.ref a), v1, v2] ∧ Same H H' ∧ ∀ (j y : Nat), j < i → r[j]? = some y → y = 0) ⟨none, none, rfl, Same.refl _, fun j y hj => absurd hj (Nat.not_lt_zero _)⟩ ?_ ?_ ?_ ?_
    · rintro i σ H' hi ⟨v1, v2, rfl, S, _⟩
      exact ⟨_, _, SqL.of (S _ _ ha), iN_at (List.getElem?_eq_getElem hi)⟩
    · rintro σ H' ⟨v1, v2, rfl, S, _⟩
      exact ⟨_, SqL.of (S _ _ ha), by rw [iN_len]; exact Nat.le_refl _⟩
    · rintro i y σ H1 H2 hi ⟨v1, v2, rfl, S, h0⟩ ⟨U, x', rfl, hU, rfl, hx⟩
      obtain ⟨x, ex, rfl⟩ := iN_get (hx _ (SqL.of (S _ _ ha)))
      have sU : Same H1 (upd H1 U (.tup [.int (i : Int), .int (x : Int)])) := same_upd hU
      refine ⟨U, _, rfl, SqT.of upd_same, rfl, _, _, rfl, _, _, rfl, rfl, ?_⟩
      refine ⟨_, rfl, rfl, _, rfl, ?_⟩
      by_cases h : x = 0
      · refine if_false_of (by rw [decide_eq_true (by rw [h]; rfl)]; rfl) ?_
        refine ⟨_, _, rfl, S.trans sU, fun j y hj ey => ?_⟩
        by_cases hji : j = i
        · subst hji
          rw [ex] at ey
          rw [← Option.some.inj ey]
          exact h
        · exact h0 j y (by omega) ey
      · refine if_true_of (by rw [decide_eq_false fun z => h (by have := V.int.inj z; omega)]; rfl) ?_
        refine ⟨_, rfl, ?_⟩
        rw [fp_some ex h h0] at q
        exact q _ (S.trans sU)
    · rintro σ H' ⟨v1, v2, rfl, S, h0⟩
      rw [fp_none h0] at q
      exact q _ S
theorem lessened_ok {p h : Nat} (hp : 0 < p) : ∀ {st : List (Nat × List Nat)} {r : List Nat}, RowOk p h r → (∀ q ∈ st, q.2.length = h) → RowOk p h (lessened p r st)
  | [], _, hr, _ => hr
  | q :: st, r, hr, hs => lessened_ok (st := st) (r := added p r q.2 (p - r.getD q.1 0)) hp (added_ok hp hr.1 (hs q (List.mem_cons_self ..))) fun x hx => hs x (List.mem_cons_of_mem _ hx)
theorem lessened_snoc {p : Nat} (r : List Nat) (st : List (Nat × List Nat)) (q : Nat × List Nat) : lessened p r (st ++ [q]) = added p (lessened p r st) q.2 (p - (lessened p r st).getD q.1 0) := by
  unfold lessened
  rw [List.foldl_append]
  rfl
theorem ok_lessened {f : Addr} {fd : FuncData} (F : Fun K "lessened" "lessened" s_lessened f fd) (T : Txt K mg cL cN cD) (D_added : Def P w K mg base "added" 1 ["one", "other", "times", "p"] sp_added) : FnOk P w K mg base CX0 2 f fd ["row", "steps", "p"] sp_lessened := by
  obtain ⟨f_added, d_added, g_added, k_added, b_added, G_added⟩ := D_added.ex
  refine F.ok sc_lessened (fun vs H Q E h => ?_) (fun cdv A outer s H vs Q E hr h => ?_)
  · obtain ⟨a, t, r, st, p, h, rfl, _⟩ := h
    rfl
  · obtain ⟨a, t, r, st, p, h, rfl, ha, ⟨ts, s1, s2, s3⟩, hp2, hp, h8, hr', hE, q⟩ := h
    refine ⟨_, (pss_cons (ps_for PassesOwn.never rfl (pi_list (pv 1)) (pg_tup (by rfl) (pgs_cons (pg_name (i := 3) sc_lessened.nd rfl (Or.inl rfl)) (pgs_cons (pg_name (i := 4) sc_lessened.nd rfl (Or.inl rfl)) pgs_nil))) (pss_one (ps_set (i := 0) sc_lessened.nd rfl (Or.inl rfl) (pe_call G_added (hr.mono (by decide)) (by rfl) g_added k_added b_added .nil pass0 (pa_cons (pv 0) (pa_cons (pv 4) (pa_cons (pe_op op_sub (pv 2) (pe_ix ix_list (pv 0) (pv 3) (fun _ _ => rfl))) (pa_cons (pv 2) pa_nil))))))))
        (pss_one (ps_ret (pv 0)))), ?_⟩
    refine ⟨_, rfl, t, rfl, ⟨_, SqL.of s1⟩, ?_⟩
    have hst : ∀ q ∈ st, q.2.length = h := fun q hq => (hE.ok q hq).2.1
    refine for_it (n := st.length) (fun i σ H' => ∃ (ra : Addr) (v3 v4 : Option V), σ = [some (.ref ra), some (.ref t), some (.int (p : Int)), v3, v4] ∧ Same H H' ∧ H' ra = some (.lst (iN (lessened p r (st.take i))))) ⟨a, none, none, rfl, Same.refl _, ha⟩ ?_ ?_ ?_ ?_
    · rintro i σ H' hi ⟨ra, v3, v4, rfl, S, _⟩
      exact ⟨_, _, SqL.of (S _ _ s1), map_at (List.getElem?_eq_getElem (by omega))⟩
    · rintro σ H' ⟨ra, v3, v4, rfl, S, _⟩
      exact ⟨_, SqL.of (S _ _ s1), by rw [List.length_map]; omega⟩
    · rintro i y σ H1 H2 hi ⟨ra, v3, v4, rfl, S, hra⟩ ⟨rfl, hy⟩
      obtain ⟨ta, hta, rfl⟩ := map_get (hy _ (SqL.of (S _ _ s1)))
      have hsti : st[i]? = some (st[i].1, st[i].2) := List.getElem?_eq_getElem hi
      have hmem : st[i] ∈ st := List.getElem_mem hi
      generalize st[i] = pr at hsti hmem
      obtain ⟨pl, row⟩ := pr
      obtain ⟨b, _, t1, t2⟩ := s3 i ta pl row hta hsti
      obtain ⟨hpl, hrow⟩ := hE.ok _ hmem
      have lok : RowOk p h (lessened p r (st.take i)) := lessened_ok (by omega) hr' fun q hq => hst q (List.mem_of_mem_take hq)
      have hlt : (lessened p r (st.take i)).getD pl 0 < p := lok.lt (by omega) pl
      have hat : (lessened p r (st.take i))[pl]? = some ((lessened p r (st.take i)).getD pl 0) := by
        rw [getD_in _ (by rw [lok.1]; exact hpl)]
        exact List.getElem?_eq_getElem _
      refine ⟨ta, _, rfl, SqT.of (S _ _ t1), rfl, _, _, rfl, _, _, rfl, rfl, ?_⟩
      have etimes : (p : Int) - ((lessened p r (st.take i)).getD pl 0 : Int) = ((p - (lessened p r (st.take i)).getD pl 0 : Nat) : Int) := by omega
      refine ⟨_, rfl, _, rfl, _, rfl, _, rfl, _, rfl, ra, _, _, _, rfl, rfl, SqL.of hra, atI_nat (iN_at hat), _, _, rfl, rfl, _, rfl, ra, b, _, row, p - (lessened p r (st.take i)).getD pl 0, p, congrArg (fun z => [V.ref ra, V.ref b, V.int z, V.int (p : Int)]) etimes, hra, S _ _ t2, by rw [lok.1, hrow.1], by rw [lok.1]; omega, by omega, by omega, ?_⟩
      intro H3 l3 S3 n3 hl3
      refine ⟨l3, _, _, rfl, S.trans S3, ?_⟩
      rw [take_more hsti, lessened_snoc]
      exact hl3
    · rintro σ H' ⟨ra, v3, v4, rfl, S, hra⟩
      rw [List.take_length] at hra
      exact ⟨_, rfl, q H' ra S hra⟩
theorem elim_snoc {p : Nat} (rs : List (List Nat)) (r : List Nat) : elim p (rs ++ [r]) = oneStep p (elim p rs) r := by
  unfold elim
  rw [List.foldl_append]
  rfl
theorem rep_flat (n : Nat) : (List.replicate n [V.int 0]).flatten = iN (List.replicate n 0) := by
  induction n with
  | zero => rfl
  | succ n ih =>
    rw [List.replicate_succ, List.flatten_cons, ih, List.replicate_succ]
    rfl
theorem elim_len {p : Nat} : ∀ (rs : List (List Nat)) (st : List (Nat × List Nat)), (rs.foldl (oneStep p) st).length ≤ st.length + rs.length
  | [], st => by simp
  | r :: rs, st => by
    have ih := elim_len (p := p) rs (oneStep p st r)
    have : (oneStep p st r).length ≤ st.length + 1 := by
      unfold oneStep
      split <;> simp
    rw [List.foldl_cons, List.length_cons]
    omega
theorem ok_rank_of {f : Addr} {fd : FuncData} (F : Fun K "rank_of" "rank_of" s_rank_of f fd) (T : Txt K mg cL cN cD) (D_added : Def P w K mg base "added" 1 ["one", "other", "times", "p"] sp_added) (D_first : Def P w K mg base "first_place" 1 ["row"] sp_first_place)
    (D_inv : Def P w K mg base "inverse_of" 1 ["number", "p"] sp_inverse_of) (D_less : Def P w K mg base "lessened" 2 ["row", "steps", "p"] sp_lessened) : FnOk P w K mg base CX0 3 f fd ["rows", "p"] sp_rank_of := by
  obtain ⟨f_added, d_added, g_added, k_added, b_added, G_added⟩ := D_added.ex
  obtain ⟨f_first_place, d_first_place, g_first_place, k_first_place, b_first_place, G_first_place⟩ := D_first.ex
  obtain ⟨f_inverse_of, d_inverse_of, g_inverse_of, k_inverse_of, b_inverse_of, G_inverse_of⟩ := D_inv.ex
  obtain ⟨f_lessened, d_lessened, g_lessened, k_lessened, b_lessened, G_lessened⟩ := D_less.ex
  refine F.ok sc_rank_of (fun vs H Q E h => ?_) (fun cdv A outer s H vs Q E hr h => ?_)
  · obtain ⟨a, rs, p, h, rfl, _⟩ := h
    rfl
  · obtain ⟨a, rs, p, h, rfl, ⟨bs, r1, r2, r3⟩, h40, hpr, hp, h8, hrow, q⟩ := h
    have hp2 : 2 ≤ p := (prime_iff.mp hpr).1
    have hinv := inv_of_prime hpr
    refine ⟨_, (pss_cons (ps_set (i := 2) sc_rank_of.nd rfl (Or.inl rfl) (pe_lst pa_nil))
        (pss_cons (ps_for PassesOwn.never rfl (pi_list (pv 0)) (pg_name (i := 3) sc_rank_of.nd rfl (Or.inl rfl)) (pss_cons (ps_set (i := 4) sc_rank_of.nd rfl (Or.inl rfl) (pe_call G_lessened (hr.mono (by decide)) (by rfl) g_lessened k_lessened b_lessened .nil pass0 (pa_cons (pv 3) (pa_cons (pv 2) (pa_cons (pv 1) pa_nil)))))
        (pss_cons (ps_set (i := 5) sc_rank_of.nd rfl (Or.inl rfl) (pe_call G_first_place (hr.mono (by decide)) (by rfl) g_first_place k_first_place b_first_place .nil pass0 (pa_cons (pv 4) pa_nil)))
        (pss_one (ps_if (pt_cmpR op_notN (pv 5) pe_non (nomark _)) (pss_cons (ps_set (i := 6) sc_rank_of.nd rfl (Or.inl rfl) (pe_op op_rep (pe_lst (pa_cons pe_int pa_nil)) (pe_callB call_len_seq (by rfl) T.len PySem.boot_len (pa_cons (pv 4) pa_nil))))
        (pss_one (ps_expr (pe_bm PySem.F.plainAttrs_list PySem.F.slot_list_append PySem.F.type_list_append mt_append (pv 2) (pa_cons (pe_tup (pa_cons (pv 5) (pa_cons (pe_call G_added (hr.mono (by decide)) (by rfl) g_added k_added b_added .nil pass0 (pa_cons (pv 6) (pa_cons (pv 4) (pa_cons (pe_call G_inverse_of (hr.mono (by decide)) (by rfl) g_inverse_of k_inverse_of b_inverse_of .nil pass0 (pa_cons (pe_ix ix_list (pv 4) (pv 5) (fun _ _ => rfl)) (pa_cons (pv 1) pa_nil))) (pa_cons (pv 1) pa_nil))))) pa_nil))) pa_nil))))) pss_nil)))))
        (pss_one (ps_ret (pe_callB call_len_seq (by rfl) T.len PySem.boot_len (pa_cons (pv 2) pa_nil)))))), ?_⟩
    refine ⟨Nat.zero_le _, fun sa hsa => ?_⟩
    have S0 : Same H (upd H sa (.lst [])) := same_upd hsa
    refine ⟨_, rfl, a, rfl, ⟨_, SqL.of (S0 _ _ r1)⟩, ?_⟩
    refine for_it (n := rs.length) (fun i σ H' => ∃ (v3 v4 v5 v6 : Option V), σ = [some (.ref a), some (.int (p : Int)), some (.ref sa), v3, v4, v5, v6] ∧ Same H H' ∧ StepsAt H' sa (elim p (rs.take i))) ?_ ?_ ?_ ?_ ?_
    · exact ⟨none, none, none, none, rfl, S0, [], upd_same, rfl, fun i t pl r h => by simp at h⟩
    · rintro i σ H' hi ⟨v3, v4, v5, v6, rfl, S, _⟩
      exact ⟨_, _, SqL.of (S _ _ r1), map_at (List.getElem?_eq_getElem (by omega))⟩
    · rintro σ H' ⟨v3, v4, v5, v6, rfl, S, _⟩
      exact ⟨_, SqL.of (S _ _ r1), by rw [List.length_map]; omega⟩
    · rintro i y σ H1 H1' hi ⟨v3, v4, v5, v6, rfl, S, ST⟩ ⟨rfl, hy⟩
      obtain ⟨ba, hba, rfl⟩ := map_get (hy _ (SqL.of (S _ _ r1)))
      have hri : rs[i]? = some rs[i] := List.getElem?_eq_getElem hi
      have hmem : rs[i] ∈ rs := List.getElem_mem hi
      generalize rs[i] = r at hri hmem
      have hrok := hrow r hmem
      have hb := r3 i ba r hba hri
      obtain ⟨wE, hEl⟩ := el_all hp2 hinv (rs.take i) [] [] [] el_nil fun q hq => hrow q (List.mem_of_mem_take hq)
      have hech : Ech p h (elim p (rs.take i)) := hEl.ech
      have hlen : (elim p (rs.take i)).length ≤ 40 := by
        have := elim_len (p := p) (rs.take i) []
        rw [List.length_nil, Nat.zero_add, List.length_take] at this
        exact Nat.le_trans this (by omega)
      rw [take_more hri, elim_snoc]
      generalize elim p (rs.take i) = st at ST hech hlen
      -- left = lessened(row, steps, p)
      refine ⟨_, rfl, _, rfl, _, rfl, ba, sa, r, st, p, h, rfl, S _ _ hb, ST, hp2, hp, h8, hrok, hech, fun H2 la S2 hla => ?_⟩
      have lok := (lessened_spec (by omega) hech hrok).1
      -- place = first_place(left)
      refine ⟨_, rfl, la, _, rfl, hla, fun H3 S3 => ?_⟩
      refine ⟨_, rfl, rfl, _, rfl, ?_⟩
      have ST3 := ST.same (S2.trans S3)
      have S' := S.trans (S2.trans S3)
      unfold oneStep
      cases hfp : firstPlace (lessened p r st) with
      | none =>
        refine if_false_of rfl ?_
        exact ⟨_, _, _, _, rfl, S', ST3⟩
      | some pl =>
        obtain ⟨hpl, hne⟩ := firstPlace_some hfp
        have hlt : (lessened p r st).getD pl 0 < p := lok.lt (by omega) pl
        have hat : (lessened p r st)[pl]? = some ((lessened p r st).getD pl 0) := by
          rw [getD_in _ hpl]
          exact List.getElem?_eq_getElem _
        have hinvs := inv_spec hp2 hinv (a := (lessened p r st).getD pl 0) (by rw [Nat.mod_eq_of_lt hlt]; exact hne)
        have hilt : invOf p ((lessened p r st).getD pl 0) ≤ 251 := by
          have := hinvs.2
          unfold invCands at this
          have := List.mem_range'_1.mp (List.mem_filter.mp this).1
          omega
        generalize lessened p r st = left at hla lok hpl hne hlt hat hinvs hilt hfp
        refine if_true_of rfl ?_
        -- nothing = [0] * len(left)
        refine ⟨by show 1 ≤ sizeLine; decide, fun l0 hl0 => ?_⟩
        have S4 : Same H3 (upd H3 l0 (.lst [.int 0])) := same_upd hl0
        have hla4 := S4 _ _ (S3 _ _ hla)
        refine ⟨_, rfl, la, _, rfl, .inl (SqL.of hla4), l0, _, _, rfl, rfl, upd_same, by omega, by rw [iN_len, lok.1]; omega, small300' (by rw [iN_len, lok.1]; simp only [List.length_cons, List.length_nil]; omega), fun l1 hl1 => ?_⟩
        have e1 : (List.replicate (((iN left).length : Nat) : Int).toNat [V.int 0]).flatten = iN (List.replicate left.length 0) := by
          rw [Int.toNat_natCast, iN_len]
          exact rep_flat _
        rw [e1]
        have S5 : Same H3 (upd (upd H3 l0 (.lst [.int 0])) l1 (.lst (iN (List.replicate left.length 0)))) := S4.trans (same_upd hl1)
        generalize hH5 : upd (upd H3 l0 (.lst [.int 0])) l1 (.lst (iN (List.replicate left.length 0))) = H5 at S5
        have hl15 : H5 l1 = some (.lst (iN (List.replicate left.length 0))) := by
          rw [← hH5]
          exact upd_same
        have ST5 := ST3.same S5
        have hla5 := S5 _ _ (S3 _ _ hla)
        obtain ⟨ts, u1, u2, u3⟩ := id ST5
        -- steps.append((place, added(nothing, left, inverse_of(left[place], p), p)))
        refine ⟨_, rfl, .inl ⟨rfl, _, SqL.of u1⟩, ?_⟩
        refine ⟨_, rfl, _, rfl, _, rfl, _, rfl, _, rfl, la, _, _, _, rfl, rfl, SqL.of hla5, atI_nat (iN_at hat), _, rfl, left.getD pl 0, p, rfl, by omega, hp2, hp, fun z => ?_, fun H6 S6 => ?_⟩
        · have := hinvs.2
          rw [z] at this
          simp at this
        refine ⟨_, rfl, l1, la, _, left, invOf p (left.getD pl 0), p, rfl, S6 _ _ hl15, S6 _ _ hla5, by simp, by simp [lok.1]; omega, by omega, hilt, fun H7 l7 S7 n7 hl7 => ?_⟩
        refine ⟨by show 2 ≤ sizeLine; decide, fun tp htp => ?_⟩
        have S67 := S6.trans S7
        have S8 : Same H7 (upd H7 tp (.tup [.int (pl : Int), .ref l7])) := same_upd htp
        have u1' := S8 _ _ (S67 _ _ u1)
        refine ⟨sa, _, _, rfl, rfl, u1', small300 (by rw [List.length_map]; omega), ?_⟩
        have nsl : l7 ≠ sa := (ne_of_none (S6 _ _ u1) n7).symm
        have nst : tp ≠ sa := (ne_of_none (S67 _ _ u1) htp).symm
        refine ⟨_, _, _, _, rfl, same_new (S'.trans (S5.trans (S67.trans S8))) hsa, ts ++ [tp], ?_, by simp [u2], fun i t pl' r' ht hs => ?_⟩
        · rw [upd_same, List.map_append]
          rfl
        · by_cases hil : i < ts.length
          · rw [List.getElem?_append_left hil] at ht
            rw [List.getElem?_append_left (by omega)] at hs
            obtain ⟨b', b0, b1, b2⟩ := u3 i t pl' r' ht hs
            have b1' := S8 _ _ (S67 _ _ b1)
            have b2' := S8 _ _ (S67 _ _ b2)
            exact ⟨b', b0, by rw [upd_ne (ne_of b1' u1' (by intro z; cases z))]; exact b1', by rw [upd_ne b0]; exact b2'⟩
          · have hie : i = ts.length := by
              have := (List.getElem?_eq_some_iff.mp ht).1
              simp only [List.length_append, List.length_singleton] at this
              omega
            subst hie
            rw [List.getElem?_append_right (Nat.le_refl _), Nat.sub_self] at ht
            rw [u2, List.getElem?_append_right (Nat.le_refl _), Nat.sub_self] at hs
            have e1 : tp = t := Option.some.inj ht
            have e2 := Option.some.inj hs
            have e3 := (Prod.mk.inj e2).1
            have e4 := (Prod.mk.inj e2).2
            subst e1 e3 e4
            exact ⟨l7, nsl, by rw [upd_ne nst]; exact upd_same, by rw [upd_ne nsl]; exact S8 _ _ hl7⟩
    · rintro σ H' ⟨v3, v4, v5, v6, rfl, S, ⟨ts, u1, u2, u3⟩⟩
      refine ⟨_, rfl, sa, _, rfl, .inl (SqL.of u1), ?_⟩
      rw [List.length_map, u2, List.take_length]
      exact q _ S
def addrOf : V → Addr
  | .ref a => a
  | _ => 0
theorem ok_node_rank {f : Addr} {fd : FuncData} (F : Fun K "node_rank" "node_rank" s_node_rank f fd) (T : Txt K mg cL cN cD) (D_lines_into : MDef P w K mg base cN "lines_into" 1 ["self", "t"] (sp_lines_into cL cN))
    (D_all : Def P w K mg base "all_vectors" 3 ["net"] (sp_all_vectors cL cN)) (D_rank : Def P w K mg base "rank_of" 3 ["rows", "p"] sp_rank_of) : FnOk P w K mg base CX0 4 f fd ["net", "t"] (sp_node_rank cL cN) := by
  obtain ⟨f_lines_into, d_lines_into, m_lines_into, b_lines_into, G_lines_into⟩ := D_lines_into.ex
  obtain ⟨f_all_vectors, d_all_vectors, g_all_vectors, k_all_vectors, b_all_vectors, G_all_vectors⟩ := D_all.ex
  obtain ⟨f_rank_of, d_rank_of, g_rank_of, k_rank_of, b_rank_of, G_rank_of⟩ := D_rank.ex
  refine F.ok sc_node_rank (fun vs H Q E h => ?_) (fun cdv A outer s H vs Q E hr h => ?_)
  · obtain ⟨a, s, c, L, as, ds, t, rfl, _⟩ := h
    rfl
  · obtain ⟨a, s, c, L, as, ds, t, rfl, N, q⟩ := h
    obtain ⟨dx, hn⟩ := N.net
    have hp2 := N.good.p2
    have hp := N.good.p251
    have m40 := N.good.m40
    have ilen := into_len s.net t
    refine ⟨_, (pss_cons (ps_set (i := 2) sc_node_rank.nd rfl (Or.inr rfl) (pe_call G_all_vectors (hr.mono (by decide)) (by rfl) g_all_vectors k_all_vectors b_all_vectors .nil pass0 (pa_cons (pv 0) pa_nil)))
        (pss_one (ps_ret (pe_call G_rank_of (hr.mono (by decide)) (by rfl) g_rank_of k_rank_of b_rank_of .nil pass0 (pa_cons (pe_lc (own := [("e", 3)]) (g := (gName 3)) (tt := tYes) (te := (tDGet (tVar 2) (tVar 3))) rfl sc_node_rank.nd (pi_list (pe_meth (pv 0) T.clN m_lines_into G_lines_into (hr.mono (by decide)) b_lines_into .nil pass0 (pa_cons (pv 1) pa_nil))) (blkOk_by (own := [("e", 3)]) (N := ["net", "t", "told", "e"]) (sc := defScope s_node_rank) (by decide +kernel)) (fun _ _ _ _ _ => (pg_name (i := 3) sc_node_rank.nd rfl (Or.inl rfl))) (fun _ _ _ _ _ => pts_nil) (fun _ _ _ _ _ => (pe_dget (hu_of hr) (pv 2) (pv 3) (fun _ _ => rfl)))) (pa_cons (pe_fld (pv 0) rfl) pa_nil)))))), ?_⟩
    refine ⟨_, rfl, a, s, c, L, as, ds, rfl, N, fun H1 td c' S1 ⟨kvs, t1, t2, t3⟩ => ?_⟩
    refine ⟨_, rfl, a, dx, _, rfl, S1 _ _ hn, netF_no (by decide +kernel) (by decide +kernel) (by decide +kernel) (by decide +kernel), _, rfl, a, s, c, L, as, ds, t, rfl, N.same S1, fun H2 li S2 hli hL2 => ?_⟩
    refine ⟨li, rfl, ⟨_, SqL.of hL2⟩, fun D hD => ?_⟩
    have hb : ∀ (i d : Nat), (into s.net t)[i]? = some d → ∃ b, valV kvs (Sum.inl (d : Int)) = some (.ref b) ∧ H2 b = some (.lst (iN (vec s.net s.p s.h s.mix d))) := fun i d h => by
      obtain ⟨b, g1, g2⟩ := t3 d (mem_into.mp (List.mem_of_getElem? h)).1
      exact ⟨b, g1, S2 _ _ g2⟩
    refine lc_it (n := (into s.net t).length) (CompP H2 D fun i => (((into s.net t).take i).map fun (d : Nat) => addrOf ((valV kvs (Sum.inl (d : Int))).getD .non)).map V.ref) (comp_start hD rfl) (fun i H3 hi P => ?_) (fun H3 P => ?_) (fun i x H3 H3' hi P y => ?_) (fun H3 P => ?_)
    · exact ⟨_, _, SqL.of (P.2 _ _ hL2), iN_at (List.getElem?_eq_getElem hi)⟩
    · exact ⟨_, SqL.of (P.2 _ _ hL2), by rw [iN_len]; exact Nat.le_refl _⟩
    · obtain ⟨rfl, hy⟩ := y
      obtain ⟨d, hd, rfl⟩ := iN_get (hy _ (SqL.of (P.2 _ _ hL2)))
      obtain ⟨b, g1, g2⟩ := hb i d hd
      refine ⟨rfl, ?_⟩
      refine ⟨_, rfl, _, rfl, td, .ref b, rfl, dget_of (P.2 _ _ (S2 _ _ t1)) g1, ?_⟩
      refine comp_yes hD P (Same.refl _) ?_ (small300 ?_)
      · rw [take_more hd, List.map_append, List.map_append]
        show _ ++ [V.ref (addrOf ((valV kvs (Sum.inl (d : Int))).getD .non))] = _
        rw [g1]
        rfl
      · simp only [List.length_map, List.length_take]
        omega
    · have P1 : H3 D = some (.lst ((((into s.net t).take (into s.net t).length).map fun (d : Nat) => addrOf ((valV kvs (Sum.inl (d : Int))).getD .non)).map V.ref)) := P.1
      rw [List.take_length] at P1
      have S3 := S1.trans (S2.trans P.2)
      refine ⟨_, rfl, a, cN, dx, _, _, rfl, S3 _ _ hn, T.clN, T.nP, netF_p, D, (into s.net t).map (vec s.net s.p s.h s.mix), s.p, s.h, rfl, ⟨_, P1, by simp, fun i b r hbi hri => ?_⟩, by rw [List.length_map]; omega, N.good.pr, hp, N.good.h8, fun r hr => ?_, fun H4 S4 => ?_⟩
      · rw [List.getElem?_map] at hbi hri
        cases hi : (into s.net t)[i]? with
        | none =>
          rw [hi] at hbi
          cases hbi
        | some d =>
          rw [hi] at hbi hri
          obtain ⟨b', g1, g2⟩ := hb i d hi
          have e1 : addrOf ((valV kvs (Sum.inl (d : Int))).getD .non) = b := Option.some.inj hbi
          have e2 := Option.some.inj hri
          rw [g1] at e1
          have e1 : b' = b := e1
          subst e1 e2
          exact P.2 _ _ g2
      · obtain ⟨d, _, rfl⟩ := List.mem_map.mp hr
        exact vec_ok (by omega)
      · rw [elim_rank hp2 N.good.inv _ fun r hr => by
          obtain ⟨d, _, rfl⟩ := List.mem_map.mp hr
          exact vec_ok (by omega)]
        exact q _ (S3.trans S4)
end
end NM
namespace NM
set_option maxRecDepth 100000
set_option maxHeartbeats 4000000
open PySem L2
open Rd03 (Net Abs tail head many into entry vec)
section
variable {P : Program} {w : World} {K : PySem.W.Frag} {mg : Str → Option Value} {base : Heap} {cL cN cD : Addr}
/-! ### pairs -/
def PairsIn (H : Hp) (ts : List Addr) (l : List (Nat × Nat)) : Prop := ts.length = l.length ∧ ∀ (i : Nat) q v e, ts[i]? = some q → l[i]? = some (v, e) → H q = some (.tup [.int ((v : Nat) : Int), .int ((e : Nat) : Int)])
theorem PairsIn.keep {H H' : Hp} {ts : List Addr} {l : List (Nat × Nat)} (p : PairsIn H ts l) (k : ∀ q x, H q = some (.tup x) → H' q = some (.tup x)) : PairsIn H' ts l := ⟨p.1, fun i q v e h1 h2 => k _ _ (p.2 i q v e h1 h2)⟩
theorem PairsIn.snoc {H : Hp} {ts : List Addr} {l : List (Nat × Nat)} {q : Addr} {v e : Nat} (p : PairsIn H ts l) (h : H q = some (.tup [.int (v : Int), .int (e : Int)])) : PairsIn H (ts ++ [q]) (l ++ [(v, e)]) := by
  refine ⟨by simp [p.1], fun i q' v' e' h1 h2 => ?_⟩
  by_cases hi : i < ts.length
  · rw [List.getElem?_append_left hi] at h1
    rw [List.getElem?_append_left (by rw [← p.1]; exact hi)] at h2
    exact p.2 i q' v' e' h1 h2
  · have hie : i = ts.length := by
      have := (List.getElem?_eq_some_iff.mp h1).1
      simp only [List.length_append, List.length_singleton] at this
      omega
    subst hie
    rw [List.getElem?_append_right (Nat.le_refl _), Nat.sub_self] at h1
    rw [p.1, List.getElem?_append_right (Nat.le_refl _), Nat.sub_self] at h2
    have e1 : q = q' := Option.some.inj h1
    have e2 : (v, e) = (v', e') := Option.some.inj h2
    cases e2
    subst e1
    exact h
theorem PairsIn.append {H : Hp} {ts ts' : List Addr} {l l' : List (Nat × Nat)} (p : PairsIn H ts l) (p' : PairsIn H ts' l') : PairsIn H (ts ++ ts') (l ++ l') := by
  refine ⟨by simp [p.1, p'.1], fun i q v e h1 h2 => ?_⟩
  by_cases hi : i < ts.length
  · rw [List.getElem?_append_left hi] at h1
    rw [List.getElem?_append_left (by rw [← p.1]; exact hi)] at h2
    exact p.2 i q v e h1 h2
  · rw [List.getElem?_append_right (by omega)] at h1
    rw [List.getElem?_append_right (by rw [← p.1]; omega), ← p.1] at h2
    exact p'.2 _ q v e h1 h2
/-- what a comprehension of pairs has made -/
def CompT (H1 : Hp) (D : Addr) (l : List (Nat × Nat)) (H : Hp) : Prop := ∃ ts, H D = some (.lst (ts.map V.ref)) ∧ PairsIn H ts l ∧ Same H1 H
theorem compT_yes {H1 H H4 : Hp} {D q : Addr} {l : List (Nat × Nat)} {v e : Nat} (hD : H1 D = none) (P : CompT H1 D l H) (s : Same H H4) (hq : H4 q = some (.tup [.int (v : Int), .int (e : Int)])) (hl : l.length ≤ 100000) :
    ∃ a, H4 D = some (.lst a) ∧ a.length < sizeLine ∧ CompT H1 D (l ++ [(v, e)]) (upd H4 D (.lst (a ++ [.ref q]))) := by
  obtain ⟨ts, h1, h2, h3⟩ := P
  have hD4 := s _ _ h1
  have k : ∀ b x, H4 b = some (.tup x) → upd H4 D (.lst (ts.map V.ref ++ [.ref q])) b = some (.tup x) := fun b x hb => by
    rw [upd_ne (ne_of hb hD4 (by intro z; cases z))]
    exact hb
  refine ⟨_, hD4, small300 (by rw [List.length_map, h2.1]; exact hl), ts ++ [q], ?_, ?_, same_new (h3.trans s) hD⟩
  · rw [upd_same, List.map_append]
    rfl
  · exact ((h2.keep fun b x hb => s _ _ hb).snoc hq).keep k
theorem filter_take_get {p : Nat → Bool} {l : List Nat} {i x : Nat} (h : l[i]? = some x) : (l.take (i + 1)).filter p = (l.take i).filter p ++ (if p x then [x] else []) := by
  rw [take_more h, List.filter_append]
  congr 1
  by_cases hp : p x <;> simp [hp]
theorem ok_steps_from {f : Addr} {fd : FuncData} (F : Fun K "steps_from" "steps_from" s_steps_from f fd) (T : Txt K mg cL cN cD) (D_lines_into : MDef P w K mg base cN "lines_into" 1 ["self", "t"] (sp_lines_into cL cN))
    (D_lines_from : MDef P w K mg base cN "lines_from" 1 ["self", "t"] (sp_lines_from cL cN)) : FnOk P w K mg base CX0 2 f fd ["net", "t", "used"] (sp_steps_from cL cN) := by
  obtain ⟨f_lines_into, d_lines_into, m_lines_into, b_lines_into, G_lines_into⟩ := D_lines_into.ex
  obtain ⟨f_lines_from, d_lines_from, m_lines_from, b_lines_from, G_lines_from⟩ := D_lines_from.ex
  refine F.ok sc_steps_from (fun vs H Q E h => ?_) (fun cdv A outer s H vs Q E hr h => ?_)
  · obtain ⟨a, s, c, L, as, ds, t, u, used, rfl, _⟩ := h
    rfl
  · obtain ⟨a, s, c, L, as, ds, t, u, used, rfl, N, hu, q⟩ := h
    obtain ⟨dx, hn⟩ := N.net
    have m40 := N.good.m40
    have flen := fromN_len s.net t
    have ilen := into_len s.net t
    refine ⟨_, (pss_cons (ps_setLc (i := 3) (own := [("e", 4)]) (g := (gName 4)) (tt := (tB (tDNotIn (tVar 4) (tVar 2)))) (te := (tTup (tCons (tFld K (tOp (rIxL K) (tFld K (tVar 0) "lines") (tVar 4)) "goal") (tCons (tVar 4) tNil)))) rfl sc_steps_from.nd rfl rfl (sw_true rfl rfl rfl (by decide +kernel)) (pi_list (pe_meth (pv 0) T.clN m_lines_from G_lines_from (hr.mono (by decide)) b_lines_from .nil pass0 (pa_cons (pv 1) pa_nil))) (blkOk_by (own := [("e", 4)]) (N := ["net", "t", "used", "found", "e"]) (sc := defScope s_steps_from) (by decide +kernel)) (fun _ _ _ _ _ => (pg_name (i := 4) sc_steps_from.nd rfl (Or.inl rfl))) (fun _ _ _ _ _ => pts_one (pt_cmp (pc_dnotin (hu_of hr) (pv 4) (pv 2)))) (fun _ _ _ _ _ => (pe_tup (pa_cons (pe_fld (pe_ix ix_list (pe_fld (pv 0) rfl) (pv 4) (fun _ _ => rfl)) rfl) (pa_cons (pv 4) pa_nil)))))
        (pss_one (ps_ret (pe_op op_cat (pv 3) (pe_lc (own := [("e", 4)]) (g := (gName 4)) (tt := (tB (tDIn (tVar 4) (tVar 2)))) (te := (tTup (tCons (tFld K (tOp (rIxL K) (tFld K (tVar 0) "lines") (tVar 4)) "start") (tCons (tVar 4) tNil)))) rfl sc_steps_from.nd (pi_list (pe_meth (pv 0) T.clN m_lines_into G_lines_into (hr.mono (by decide)) b_lines_into .nil pass0 (pa_cons (pv 1) pa_nil))) (blkOk_by (own := [("e", 4)]) (N := ["net", "t", "used", "found", "e"]) (sc := defScope s_steps_from) (by decide +kernel)) (fun _ _ _ _ _ => (pg_name (i := 4) sc_steps_from.nd rfl (Or.inl rfl))) (fun _ _ _ _ _ => pts_one (pt_cmp (pc_din (hu_of hr) (pv 4) (pv 2)))) (fun _ _ _ _ _ => (pe_tup (pa_cons (pe_fld (pe_ix ix_list (pe_fld (pv 0) rfl) (pv 4) (fun _ _ => rfl)) rfl) (pa_cons (pv 4) pa_nil))))))))), ?_⟩
    refine ⟨_, rfl, a, dx, _, rfl, hn, netF_no (by decide +kernel) (by decide +kernel) (by decide +kernel) (by decide +kernel), _, rfl, a, s, c, L, as, ds, t, rfl, N, fun H1 li S1 hli hL1 => ?_⟩
    refine ⟨li, rfl, ⟨_, SqL.of hL1⟩, fun D hD => ?_⟩
    refine lc_it (n := (fromN s.net t).length) (fun i H' => CompT H1 D ((((fromN s.net t).take i).filter fun e => !used.contains e).map fun e => (head s.net e, e)) H') ⟨[], upd_same, ⟨rfl, fun i q v e h => by simp at h⟩, same_upd hD⟩ (fun i H3 hi P => ?_) (fun H3 P => ?_) (fun i x H3 H3' hi P y => ?_) (fun H3 P => ?_)
    · obtain ⟨ts, p1, p2, p3⟩ := P
      exact ⟨_, _, SqL.of (p3 _ _ hL1), iN_at (List.getElem?_eq_getElem hi)⟩
    · obtain ⟨ts, p1, p2, p3⟩ := P
      exact ⟨_, SqL.of (p3 _ _ hL1), by rw [iN_len]; exact Nat.le_refl _⟩
    · obtain ⟨rfl, hy⟩ := y
      obtain ⟨ts, p1, p2, p3⟩ := id P
      obtain ⟨e, he, rfl⟩ := iN_get (hy _ (SqL.of (p3 _ _ hL1)))
      obtain ⟨hem, het⟩ := mem_fromN.mp (List.mem_of_getElem? he)
      obtain ⟨xa, da, dx', kv, h1, h2, h3, _⟩ := N.at hem
      have S3 := S1.trans p3
      refine ⟨rfl, ?_⟩
      refine ⟨_, rfl, _, rfl, u, _, rfl, DGet.k (k := Sum.inl (e : Int)) (S3 _ _ hu), _, rfl, ?_⟩
      rw [valV_used]
      by_cases hc : used.contains e = true
      · rw [if_pos hc]
        refine if_false_of rfl ?_
        rw [filter_take_get he, if_neg (by simp only [hc]; decide), List.append_nil]
        exact P
      · rw [if_neg hc]
        refine if_true_of rfl ?_
        refine ⟨_, rfl, a, cN, dx, _, _, rfl, S3 _ _ hn, T.clN, T.nLines, netF_lines, _, rfl, L, _, _, _, rfl, rfl, SqL.of (S3 _ _ N.lines), atI_nat (map_at h1), xa, cL, dx', _, _, rfl, S3 _ _ h3, T.clL, T.nGoal, lineF_goal, _, rfl, by show 2 ≤ sizeLine; decide, fun tp htp => ?_⟩
        rw [filter_take_get he, if_pos (by simpa using hc), List.map_append]
        refine compT_yes hD P (same_upd htp) upd_same ?_
        rw [List.length_map]
        refine Nat.le_trans (List.length_filter_le ..) ?_
        rw [List.length_take]
        omega
    · obtain ⟨ts, p1, p2, p3⟩ := P
      rw [List.take_length] at p2
      have S3 := S1.trans p3
      -- found + [.. for e in net.lines_into(t) if e in used]
      refine ⟨_, rfl, _, rfl, a, dx, _, rfl, S3 _ _ hn, netF_no (by decide +kernel) (by decide +kernel) (by decide +kernel) (by decide +kernel), _, rfl, a, s, c, L, as, ds, t, rfl, N.same S3, fun H4 li' S4 hli' hL4 => ?_⟩
      refine ⟨li', rfl, ⟨_, SqL.of hL4⟩, fun D' hD' => ?_⟩
      refine lc_it (n := (into s.net t).length) (fun i H' => CompT H4 D' ((((into s.net t).take i).filter fun e => used.contains e).map fun e => (tail s.net e, e)) H') ⟨[], upd_same, ⟨rfl, fun i q v e h => by simp at h⟩, same_upd hD'⟩ (fun i H5 hi P => ?_) (fun H5 P => ?_) (fun i x H5 H5' hi P y => ?_) (fun H5 P => ?_)
      · obtain ⟨ts, p1, p2, p3⟩ := P
        exact ⟨_, _, SqL.of (p3 _ _ hL4), iN_at (List.getElem?_eq_getElem hi)⟩
      · obtain ⟨ts, p1, p2, p3⟩ := P
        exact ⟨_, SqL.of (p3 _ _ hL4), by rw [iN_len]; exact Nat.le_refl _⟩
      · obtain ⟨rfl, hy⟩ := y
        obtain ⟨ts', p1', p2', p3'⟩ := id P
        obtain ⟨e, he, rfl⟩ := iN_get (hy _ (SqL.of (p3' _ _ hL4)))
        obtain ⟨hem, het⟩ := mem_into.mp (List.mem_of_getElem? he)
        obtain ⟨xa, da, dx', kv, h1, h2, h3, _⟩ := N.at hem
        have S5 := S3.trans (S4.trans p3')
        refine ⟨rfl, ?_⟩
        refine ⟨_, rfl, _, rfl, u, _, rfl, DGet.k (k := Sum.inl (e : Int)) (S5 _ _ hu), _, rfl, ?_⟩
        rw [valV_used]
        by_cases hc : used.contains e = true
        · rw [if_pos hc]
          refine if_true_of rfl ?_
          refine ⟨_, rfl, a, cN, dx, _, _, rfl, S5 _ _ hn, T.clN, T.nLines, netF_lines, _, rfl, L, _, _, _, rfl, rfl, SqL.of (S5 _ _ N.lines), atI_nat (map_at h1), xa, cL, dx', _, _, rfl, S5 _ _ h3, T.clL, T.nStart, lineF_start, _, rfl, by show 2 ≤ sizeLine; decide, fun tp htp => ?_⟩
          rw [filter_take_get he, if_pos hc, List.map_append]
          refine compT_yes hD' P (same_upd htp) upd_same ?_
          rw [List.length_map]
          refine Nat.le_trans (List.length_filter_le ..) ?_
          rw [List.length_take]
          omega
        · rw [if_neg hc]
          refine if_false_of rfl ?_
          rw [filter_take_get he, if_neg hc, List.append_nil]
          exact P
      · obtain ⟨ts', p1', p2', p3'⟩ := P
        rw [List.take_length] at p2'
        have S45 := S4.trans p3'
        have l1 : ts.length ≤ 40 := by
          rw [p2.1, List.length_map]
          exact Nat.le_trans (List.length_filter_le ..) (by omega)
        have l2 : ts'.length ≤ 40 := by
          rw [p2'.1, List.length_map]
          exact Nat.le_trans (List.length_filter_le ..) (by omega)
        refine ⟨D, D', _, _, rfl, rfl, S45 _ _ p1, p1', small300' (by simp only [List.length_map]; omega), fun p hp => ?_⟩
        have S' := S3.trans S45
        refine q _ p (S'.trans (same_upd hp)) (S'.free hp) ⟨ts ++ ts', ?_, ?_⟩
        · rw [upd_same, List.map_append]
        · exact ((p2.keep fun b x hb => S45 _ _ hb).append p2').keep fun b x hb => same_upd hp _ _ hb
/-! ### ways -/
theorem ok_way_to {f : Addr} {fd : FuncData} (F : Fun K "way_to" "way_to" s_way_to f fd) : FnOk P w K mg base CX0 1 f fd ["steps", "t"] sp_way_to := by
  refine F.ok sc_way_to (fun vs H Q E h => ?_) (fun cdv A outer s H vs Q E hr h => ?_)
  · obtain ⟨p, N, used, f, t, rfl, _⟩ := h
    rfl
  · obtain ⟨p, N, used, f, t, rfl, ⟨kvs, k1, k2, k3⟩, g, f16, ht, q⟩ := h
    refine ⟨_, (pss_cons (ps_set (i := 2) sc_way_to.nd rfl (Or.inl rfl) (pe_lst pa_nil))
        (pss_cons (ps_while PassesOwn.never (pt_cmpR op_notN (pe_dget (hu_of hr) (pv 0) (pv 1) (fun _ _ => rfl)) pe_non (nomark _)) (pss_cons (ps_asg (pe_dget (hu_of hr) (pv 0) (pv 1) (fun _ _ => rfl)) (pg_tup (by rfl) (pgs_cons (pg_name (i := 1) sc_way_to.nd rfl (Or.inl rfl)) (pgs_cons (pg_name (i := 3) sc_way_to.nd rfl (Or.inl rfl)) pgs_nil))))
        (pss_one (ps_expr (pe_bm PySem.F.plainAttrs_list PySem.F.slot_list_append PySem.F.type_list_append mt_append (pv 2) (pa_cons (pv 3) pa_nil))))))
        (pss_one (ps_ret (pv 2))))), ?_⟩
    refine ⟨Nat.zero_le _, fun la hla => ?_⟩
    have S0 : Same H (upd H la (.lst [])) := same_upd hla
    have i0 := List.idxOf_lt_length_of_mem ht
    have kl : (keys f).length = f.length := List.length_map _
    refine while_m (fun m σ H' => ∃ (t' : Nat) (acc : List Nat) (v3 : Option V), σ = [some (.ref p), some (.int (t' : Int)), some (.ref la), v3] ∧ Same H H' ∧ H' la = some (.lst (iN acc)) ∧ t' ∈ keys f ∧ (∀ l, WayTo f t' l → WayTo f t (acc ++ l)) ∧ m = (keys f).idxOf t' ∧ acc.length + (keys f).idxOf t' ≤ 16)
      ((keys f).idxOf t) ⟨t, [], none, rfl, S0, upd_same, ht, fun l h => h, rfl, by simp; omega⟩ ?_
    rintro m σ H' ⟨t', acc, v3, rfl, S, hl, htk, hw, rfl, hlen⟩
    rcases g.look_at t' htk with ⟨_, lk⟩ | ⟨u, e, lk, huk, hst, hix⟩
    · have hv := (k3 t').2.1 lk
      refine ⟨_, rfl, _, rfl, p, .non, rfl, dget_of (S _ _ k1) hv, rfl, _, rfl, ?_⟩
      refine if_false_of rfl ?_
      refine ⟨_, rfl, ?_⟩
      have := hw [] (.stop lk)
      rw [List.append_nil] at this
      exact q H' la acc S hl this
    · obtain ⟨qa, hv, hq⟩ := (k3 t').2.2 u e lk
      refine ⟨_, rfl, _, rfl, p, .ref qa, rfl, dget_of (S _ _ k1) hv, rfl, _, rfl, ?_⟩
      refine if_true_of rfl ?_
      refine ⟨_, fun _ _ h => h, ?_⟩
      refine ⟨_, rfl, _, rfl, p, .ref qa, rfl, dget_of (S _ _ k1) hv, qa, _, rfl, SqT.of (S _ _ hq), rfl, _, _, rfl, _, _, rfl, rfl, ?_⟩
      refine ⟨_, rfl, .inl ⟨rfl, _, SqL.of hl⟩, _, rfl, la, _, _, rfl, rfl, hl, small300 (by rw [iN_len]; omega), ?_⟩
      refine ⟨(keys f).idxOf u, hix, u, acc ++ [e], _, rfl, same_new S hla, ?_, huk, fun l h => ?_, rfl, by simp only [List.length_append, List.length_singleton]; omega⟩
      · rw [upd_same, iN_append]
        rfl
      · rw [List.append_assoc]
        exact hw _ (.on lk h)
theorem withWay_snoc (used way : List Nat) (e : Nat) : withWay used (way ++ [e]) = toggle (withWay used way) e := by
  unfold withWay
  rw [List.foldl_append]
  rfl
theorem ok_with_way {f : Addr} {fd : FuncData} (F : Fun K "with_way" "with_way" s_with_way f fd) (T : Txt K mg cL cN cD) : FnOk P w K mg base CX0 1 f fd ["used", "way"] sp_with_way := by
  refine F.ok sc_with_way (fun vs H Q E h => ?_) (fun cdv A outer s H vs Q E hr h => ?_)
  · obtain ⟨u, wa, used, way, m, rfl, _⟩ := h
    rfl
  · obtain ⟨u, wa, used, way, m, rfl, hu, hw, hnd, hlt, hlt', m40, q⟩ := h
    refine ⟨_, (pss_cons (ps_set (i := 2) sc_with_way.nd rfl (Or.inl rfl) (pe_callTy call_dictD (by rfl) T.dict (by decide +kernel) (pa_cons (pv 0) pa_nil)))
        (pss_cons (ps_for PassesOwn.never rfl (pi_list (pv 1)) (pg_name (i := 3) sc_with_way.nd rfl (Or.inl rfl)) (pss_one (ps_if (pt_cmp (pc_din (hu_of hr) (pv 3) (pv 2))) (pss_one (ps_expr (pe_dpop1 (pv 2) (pv 3) ⟨rfl, rfl, rfl, rfl⟩))) (pss_one (ps_dput (hu_of hr) (pv 2) (pv 3) pe_bl rfl)))))
        (pss_one (ps_ret (pv 2))))), ?_⟩
    refine ⟨_, rfl, u, _, rfl, .inl hu, fun fa hfa => ?_⟩
    have S0 : Same H (upd H fa (.dK (usedK used))) := same_upd hfa
    refine ⟨_, rfl, wa, rfl, ⟨_, SqL.of (S0 _ _ hw)⟩, ?_⟩
    refine for_it (n := way.length) (fun i σ H' => ∃ v3 : Option V, σ = [some (.ref u), some (.ref wa), some (.ref fa), v3] ∧ Same H H' ∧ H' fa = some (.dK (usedK (withWay used (way.take i))))) ⟨none, rfl, S0, upd_same⟩ ?_ ?_ ?_ ?_
    · rintro i σ H' hi ⟨v3, rfl, S, _⟩
      exact ⟨_, _, SqL.of (S _ _ hw), iN_at (List.getElem?_eq_getElem hi)⟩
    · rintro σ H' ⟨v3, rfl, S, _⟩
      exact ⟨_, SqL.of (S _ _ hw), by rw [iN_len]; exact Nat.le_refl _⟩
    · rintro i y σ H1 H1' hi ⟨v3, rfl, S, hf⟩ ⟨rfl, hy⟩
      obtain ⟨e, he, rfl⟩ := iN_get (hy _ (SqL.of (S _ _ hw)))
      rw [take_more he, withWay_snoc]
      have wnd := withWay_nodup (way := way.take i) hnd
      have wlt := withWay_lt (way := way.take i) hlt fun e h => hlt' e (List.mem_of_mem_take h)
      generalize withWay used (way.take i) = us at hf wnd wlt
      have hlen : us.length ≤ 40 := by
        have := nodup_le (m := List.range m) wnd fun x hx => List.mem_range.mpr (wlt x hx)
        rw [List.length_range] at this
        omega
      refine ⟨_, rfl, _, rfl, fa, _, rfl, DGet.k (k := Sum.inl (e : Int)) hf, _, rfl, ?_⟩
      rw [valV_used]
      unfold toggle
      by_cases hc : us.contains e = true
      · rw [if_pos hc, if_pos hc]
        refine if_true_of rfl ?_
        refine ⟨_, rfl, fa, rfl, .inl ⟨_, .inl hf⟩, _, rfl, _, Sum.inl (e : Int), .bl true, hf, rfl, by rw [valV_used, if_pos hc], ?_⟩
        refine ⟨_, rfl, same_new S hfa, ?_⟩
        rw [upd_same, dropK_used]
      · rw [if_neg hc, if_neg hc]
        refine if_false_of rfl ?_
        refine ⟨_, rfl, _, rfl, fa, _, rfl, DPut.k (k := Sum.inl (e : Int)) hf (small300 (by unfold usedK; rw [List.length_map]; omega)), ?_⟩
        refine ⟨_, rfl, same_new S hfa, ?_⟩
        rw [upd_same, putK_new _ (by rw [valV_used, if_neg hc])]
        unfold usedK
        rw [List.map_append]
        rfl
    · rintro σ H' ⟨v3, rfl, S, hf⟩
      rw [List.take_length] at hf
      exact ⟨_, rfl, q H' fa S hf⟩
end
end NM
namespace NM
set_option maxRecDepth 100000
set_option maxHeartbeats 4000000
open PySem L2
open Rd03 (Net Abs tail head many into entry vec)
section
variable {P : Program} {w : World} {K : PySem.W.Frag} {mg : Str → Option Value} {base : Heap} {cL cN cD : Addr}
theorem dpAll_iN {K : PySem.W.Frag} {H : Hp} : ∀ l : List Nat, DpAll K H (iN l) (l.map fun (n : Nat) => PyData.int (n : Int))
  | [] => .nil
  | n :: l => .cons (.int _) (dpAll_iN l)
theorem lay_ints : ∀ l : List Nat, PyData.canLayAll0 (l.map fun (n : Nat) => PyData.int (n : Int)) = true
  | [] => by simp [PyData.canLayAll0]
  | n :: l => by
    have := lay_ints l
    simp [PyData.canLayAll0, PyData.canLay0, this]
theorem depth_ints : ∀ l : List Nat, PyData.depthAll (l.map fun (n : Nat) => PyData.int (n : Int)) = 0
  | [] => by simp [PyData.depthAll]
  | n :: l => by
    have := depth_ints l
    simp [PyData.depthAll, PyData.depth, this]
theorem shaped_ints (l : List Nat) : SeqAt.shaped (.list (l.map fun (n : Nat) => PyData.int (n : Int))) = true := by
  unfold SeqAt.shaped
  simp [PyData.canLay0, PyData.depth, lay_ints, depth_ints]
theorem eqv_nil (l : List Nat) : PyData.eqv (.list (l.map fun (n : Nat) => PyData.int (n : Int))) (.list []) = l.isEmpty := by
  cases l <;> simp [PyData.eqv, PyData.eqvAll]
/-- one node more is found -/
theorem FoundAt.put {H : Hp} {fa tp : Addr} {f : Found} {kvs : List (Key × V)} {v u e : Nat} (h1 : H fa = some (.dK kvs)) (h2 : kvs.length ≤ f.length)
    (h3 : ∀ v : Nat, (look f v = none → valV kvs (Sum.inl (v : Int)) = none) ∧ (look f v = some none → valV kvs (Sum.inl (v : Int)) = some .non) ∧ (∀ u e : Nat, look f v = some (some (u, e)) → ∃ q, valV kvs (Sum.inl (v : Int)) = some (.ref q) ∧ H q = some (.tup [.int (u : Int), .int (e : Int)])))
    (hv : v ∉ keys f) (ht : H tp = some (.tup [.int (u : Int), .int (e : Int)])) : FoundAt (upd H fa (.dK (putK kvs (Sum.inl (v : Int)) (.ref tp)))) fa (f ++ [(v, some (u, e))]) := by
  have kt : ∀ {b : Addr} {x : List V}, H b = some (.tup x) → upd H fa (.dK (putK kvs (Sum.inl (v : Int)) (.ref tp))) b = some (.tup x) := fun hb => by
    rw [upd_ne (ne_of hb h1 (by intro z; cases z))]
    exact hb
  refine ⟨_, upd_same, Nat.le_trans (length_putK _ _ _) (by simp; omega), fun x => ?_⟩
  rw [valV_put]
  by_cases hx : x = v
  · subst hx
    rw [if_pos rfl, look_snoc_new hv]
    refine ⟨fun z => (by cases z), fun z => (by cases z), fun u' e' z => ?_⟩
    cases z
    exact ⟨tp, rfl, kt ht⟩
  · rw [if_neg (fun z => hx (by have := Sum.inl.inj z; omega))]
    have lk : look (f ++ [(v, some (u, e))]) x = look f x := by
      by_cases hk : x ∈ keys f
      · exact look_snoc_old hk
      · rw [look_none.mpr hk, look_none, keys_snoc]
        intro z
        rcases List.mem_append.mp z with z | z
        · exact hk z
        · exact hx (List.mem_singleton.mp z)
    rw [lk]
    refine ⟨(h3 x).1, (h3 x).2.1, fun u' e' z => ?_⟩
    obtain ⟨q, a, b⟩ := (h3 x).2.2 u' e' z
    exact ⟨q, a, kt b⟩
theorem FoundAt.other {H : Hp} {fa b : Addr} {o : HO} {f : Found} (F : FoundAt H fa f) (hb : b ≠ fa) (hk : ∀ x, H b ≠ some (.tup x)) : FoundAt (upd H b o) fa f := by
  obtain ⟨kvs, h1, h2, h3⟩ := F
  refine ⟨kvs, by rw [upd_ne hb.symm]; exact h1, h2, fun v => ⟨(h3 v).1, (h3 v).2.1, fun u e z => ?_⟩⟩
  obtain ⟨q, a, c⟩ := (h3 v).2.2 u e z
  exact ⟨q, a, by rw [upd_ne (fun z => hk _ (z ▸ c))]; exact c⟩
def Done (N : Net) (used : List Nat) (f : Found) (x : Nat) : Prop := ∀ v e, (v, e) ∈ stepsFrom N x used → v ∈ keys f
theorem Done.more {N : Net} {used : List Nat} {f : Found} {q : Nat × Option (Nat × Nat)} {x : Nat} (d : Done N used f x) : Done N used (f ++ [q]) x := fun v e h => by
  rw [keys_snoc]
  exact List.mem_append_left _ (d v e h)
theorem ok_reached {f : Addr} {fd : FuncData} (F : Fun K "reached" "reached" s_reached f fd) (D_steps : Def P w K mg base "steps_from" 2 ["net", "t", "used"] (sp_steps_from cL cN)) : FnOk P w K mg base CX0 3 f fd ["net", "used"] (sp_reached cL cN) := by
  obtain ⟨f_steps_from, d_steps_from, g_steps_from, k_steps_from, b_steps_from, G_steps_from⟩ := D_steps.ex
  refine F.ok sc_reached (fun vs H Q E h => ?_) (fun cdv A outer s H vs Q E hr h => ?_)
  · obtain ⟨a, s, c, L, as, ds, u, used, rfl, _⟩ := h
    rfl
  · obtain ⟨a, s, c, L, as, ds, u, used, rfl, N, hu, q⟩ := h
    have n1 := N.good.n1
    have n16 := N.good.n16
    refine ⟨_, (pss_cons (ps_set (i := 2) sc_reached.nd rfl (Or.inl rfl) (pe_disp (pps_cons pe_int pe_non pps_nil) (by rfl) (by rfl) (fun z => by cases z) (by decide)))
        (pss_cons (ps_set (i := 3) sc_reached.nd rfl (Or.inl rfl) (pe_lst (pa_cons pe_int pa_nil)))
        (pss_cons (ps_while PassesOwn.never (pt_cmpR (op_neD hr.units) (pv 3) (pe_lst pa_nil) (nomark _)) (pss_cons (ps_set (i := 4) sc_reached.nd rfl (Or.inl rfl) (pe_bm0 PySem.F.plainAttrs_list PySem.F.slot_list_pop PySem.F.type_list_pop mt_pop (pv 3)))
        (pss_one (ps_for PassesOwn.never rfl (pi_list (pe_call G_steps_from (hr.mono (by decide)) (by rfl) g_steps_from k_steps_from b_steps_from .nil pass0 (pa_cons (pv 0) (pa_cons (pv 4) (pa_cons (pv 1) pa_nil))))) (pg_tup (by rfl) (pgs_cons (pg_name (i := 5) sc_reached.nd rfl (Or.inl rfl)) (pgs_cons (pg_name (i := 6) sc_reached.nd rfl (Or.inl rfl)) pgs_nil))) (pss_one (ps_if (pt_cmp (pc_dnotin (hu_of hr) (pv 5) (pv 2))) (pss_cons (ps_dput (hu_of hr) (pv 2) (pv 5) (pe_tup (pa_cons (pv 4) (pa_cons (pv 6) pa_nil))) rfl)
        (pss_one (ps_expr (pe_bm PySem.F.plainAttrs_list PySem.F.slot_list_append PySem.F.type_list_append mt_append (pv 3) (pa_cons (pv 5) pa_nil))))) pss_nil))))))
        (pss_one (ps_ret (pv 2)))))), ?_⟩
    -- found = {0: None}
    intro fa hfa
    refine ⟨upd_same, [(Sum.inl 0, .non)], rfl, by decide, ?_⟩
    have S0 : Same H (upd (upd H fa (.dK [])) fa (.dK (mergeK [] [(Sum.inl 0, .non)]))) := same_new (same_upd hfa) hfa
    have hf0 : upd (upd H fa (.dK [])) fa (.dK (mergeK [] [(Sum.inl 0, .non)])) fa = some (.dK [(Sum.inl 0, .non)]) := upd_same
    generalize upd (upd H fa (.dK [])) fa (.dK (mergeK [] [(Sum.inl 0, .non)])) = H1 at S0 hf0
    -- waiting = [0]
    refine ⟨by show 1 ≤ sizeLine; decide, fun wa hwa => ?_⟩
    have hwa0 : H wa = none := S0.free hwa
    have nfw : fa ≠ wa := ne_of_none hf0 hwa
    refine while_m (fun m σ H' => ∃ (f : Found) (wt : List Nat) (v4 v5 v6 : Option V), σ = [some (.ref a), some (.ref u), some (.ref fa), some (.ref wa), v4, v5, v6] ∧ Same H H' ∧ FoundAt H' fa f ∧ H' wa = some (.lst (iN wt)) ∧ Grown s.net used f ∧ (∀ x ∈ wt, x ∈ keys f) ∧
        (∀ x ∈ keys f, x ∈ wt ∨ Done s.net used f x) ∧ m = 2 * (s.net.n - f.length) + wt.length ∧ wt.length ≤ f.length)
      (2 * (s.net.n - 1) + 1) ?_ ?_
    · refine ⟨[(0, none)], [0], none, none, none, rfl, S0.trans (same_upd hwa), ?_, upd_same, .one, fun x hx => hx, fun x hx => .inl hx, rfl, Nat.le_refl _⟩
      refine ⟨[(Sum.inl 0, .non)], by rw [upd_ne nfw]; exact hf0, Nat.le_refl _, fun v => ?_⟩
      by_cases hv : v = 0
      · subst hv
        exact ⟨fun z => (by cases z), fun _ => rfl, fun u e z => (by cases z)⟩
      · have e1 : valV [((Sum.inl 0 : Key), V.non)] (Sum.inl (v : Int)) = none := by
          rw [valV_neg (fun z => hv (by have := Sum.inl.inj z; omega))]
          rfl
        have e2 : look [(0, none)] v = none := look_none.mpr (by simpa [keys] using hv)
        exact ⟨fun _ => e1, fun z => (by rw [e2] at z; cases z), fun u e z => (by rw [e2] at z; cases z)⟩
    · rintro m σ H2 ⟨f, wt, v4, v5, v6, rfl, S2, FA, hw, g, wk, kd, rfl, wl⟩
      -- while waiting != []
      refine ⟨_, rfl, Nat.zero_le _, fun em hem => ?_⟩
      have Se : Same H2 (upd H2 em (.lst [])) := same_upd hem
      refine ⟨_, _, .lst (SqL.of (Se _ _ hw)) (dpAll_iN wt), .lst (SqL.of upd_same) .nil, shaped_ints wt, shaped_ints [], _, rfl, ?_⟩
      rw [eqv_nil]
      have S3 := S2.trans Se
      have FA3 := FA.same Se
      have hw3 := Se _ _ hw
      generalize upd H2 em (.lst []) = H3 at S3 FA3 hw3
      rcases List.eq_nil_or_concat wt with rfl | ⟨wt0, here, rfl⟩
      · refine if_false_of rfl ?_
        refine ⟨_, rfl, q H3 fa f S3 FA3 g fun x hx v e h => ?_⟩
        rcases kd x hx with h' | h'
        · simp at h'
        · exact h' v e h
      · rw [List.concat_eq_append] at *
        refine if_true_of (by cases wt0 <;> rfl) ?_
        refine ⟨_, fun _ _ h => h, ?_⟩
        have ed : (iN (wt0 ++ [here])).dropLast = iN wt0 := by
          rw [iN_append]
          exact List.dropLast_concat
        have el : (iN (wt0 ++ [here]))[(iN (wt0 ++ [here])).length - 1]? = some (.int (here : Int)) := by
          rw [iN_append, iN_one, List.length_append, List.length_singleton, Nat.add_sub_cancel, List.getElem?_append_right (Nat.le_refl _), Nat.sub_self]
          rfl
        -- here = waiting.pop()
        refine ⟨_, rfl, .inl ⟨rfl, _, SqL.of hw3⟩, wa, _, .int (here : Int), rfl, rfl, hw3, el, ?_⟩
        rw [ed]
        have S4 : Same H (upd H3 wa (.lst (iN wt0))) := same_new S3 hwa0
        have FA4 : FoundAt (upd H3 wa (.lst (iN wt0))) fa f := FA3.other nfw.symm fun x z => by
          rw [hw3] at z
          cases z
        have hw4 : upd H3 wa (.lst (iN wt0)) wa = some (.lst (iN wt0)) := upd_same
        generalize upd H3 wa (.lst (iN wt0)) = H4 at S4 FA4 hw4
        have hk : here ∈ keys f := wk here (by simp)
        -- for there, e in steps_from(net, here, used)
        refine ⟨_, rfl, _, rfl, _, rfl, a, s, c, L, as, ds, here, u, used, rfl, N.same S4, S4 _ _ hu, fun H5 p S5 hp PA => ?_⟩
        obtain ⟨ts, p1, p2, p3⟩ := PA
        have npw : p ≠ wa := (ne_of_none hw4 hp).symm
        have npf : p ≠ fa := by
          obtain ⟨kvs, k1, _⟩ := FA4
          exact (ne_of_none k1 hp).symm
        refine ⟨p, rfl, ⟨_, SqL.of p1⟩, ?_⟩
        generalize hsteps : stepsFrom s.net here used = steps at p2 p3
        refine for_it (n := steps.length) (fun i σ H' => ∃ (f' : Found) (wt' : List Nat) (v5 v6 : Option V), σ = [some (.ref a), some (.ref u), some (.ref fa), some (.ref wa), some (.int (here : Int)), v5, v6] ∧ Same H H' ∧ FoundAt H' fa f' ∧ H' wa = some (.lst (iN wt')) ∧ Grown s.net used f' ∧ here ∈ keys f' ∧
            (∀ x ∈ wt', x ∈ keys f') ∧ (∀ x ∈ keys f', x = here ∨ x ∈ wt' ∨ Done s.net used f' x) ∧ (∀ j v e, j < i → steps[j]? = some (v, e) → v ∈ keys f') ∧ H' p = some (.lst (ts.map V.ref)) ∧ PairsIn H' ts steps ∧
            2 * (s.net.n - f'.length) + wt'.length + 1 ≤ 2 * (s.net.n - f.length) + (wt0 ++ [here]).length ∧ wt'.length ≤ f'.length) ?_ ?_ ?_ ?_ ?_
        · refine ⟨f, wt0, _, _, rfl, S4.trans S5, FA4.same S5, S5 _ _ hw4, g, hk, fun x hx => wk x (List.mem_append_left _ hx), fun x hx => ?_, fun j v e h => absurd h (Nat.not_lt_zero _), p1, ⟨p2, p3⟩, ?_, ?_⟩
          · rcases kd x hx with h | h
            · rcases List.mem_append.mp h with h | h
              · exact .inr (.inl h)
              · exact .inl (List.mem_singleton.mp h)
            · exact .inr (.inr h)
          · simp only [List.length_append, List.length_singleton]
            omega
          · simp only [List.length_append, List.length_singleton] at wl
            omega
        · rintro i σ H6 hi ⟨f', wt', v5, v6, rfl, S6, FA6, hw6, g6, hk6, wk6, kd6, dn6, hp6, PI6, hm, wl6⟩
          exact ⟨_, _, SqL.of hp6, map_at (List.getElem?_eq_getElem (by omega))⟩
        · rintro σ H6 ⟨f', wt', v5, v6, rfl, S6, FA6, hw6, g6, hk6, wk6, kd6, dn6, hp6, PI6, hm, wl6⟩
          exact ⟨_, SqL.of hp6, by rw [List.length_map]; omega⟩
        · rintro i y σ H6 H6' hi ⟨f', wt', v5, v6, rfl, S6, FA6, hw6, g6, hk6, wk6, kd6, dn6, hp6, PI6, hm, wl6⟩ ⟨rfl, hy⟩
          obtain ⟨tp, htp, rfl⟩ := map_get (hy _ (SqL.of hp6))
          have hst : steps[i]? = some (steps[i].1, steps[i].2) := List.getElem?_eq_getElem hi
          generalize steps[i] = pr at hst
          obtain ⟨v, e⟩ := pr
          have hst : steps[i]? = some (v, e) := hst
          have ht := PI6.2 i tp v e htp hst
          have hmem : (v, e) ∈ stepsFrom s.net here used := by
            rw [hsteps]
            exact List.mem_of_getElem? hst
          refine ⟨tp, _, rfl, SqT.of ht, rfl, _, _, rfl, _, _, rfl, rfl, ?_⟩
          obtain ⟨kvs, k1, k2, k3⟩ := id FA6
          refine ⟨_, rfl, _, rfl, fa, _, rfl, DGet.k (k := Sum.inl (v : Int)) k1, _, rfl, ?_⟩
          by_cases hvk : v ∈ keys f'
          · have hs : (valV kvs (Sum.inl (v : Int))).isSome = true := by
              cases hl : look f' v with
              | none => exact absurd hvk (look_none.mp hl)
              | some o =>
                cases o with
                | none =>
                  rw [(k3 v).2.1 hl]
                  rfl
                | some ue =>
                  obtain ⟨q', a', _⟩ := (k3 v).2.2 ue.1 ue.2 hl
                  rw [a']
                  rfl
            refine if_false_of (by rw [hs]; rfl) ?_
            refine ⟨f', wt', _, _, rfl, S6, FA6, hw6, g6, hk6, wk6, kd6, fun j v' e' hj hs' => ?_, hp6, PI6, hm, wl6⟩
            by_cases hji : j = i
            · subst hji
              rw [hst] at hs'
              cases hs'
              exact hvk
            · exact dn6 j v' e' (by omega) hs'
          · rw [(k3 v).1 (look_none.mpr hvk)]
            refine if_true_of rfl ?_
            have g9 : Grown s.net used (f' ++ [(v, some (here, e))]) := .more g6 hk6 hvk hmem
            have l9 := g9.len N.good.net (by omega)
            rw [List.length_append, List.length_singleton] at l9
            -- found[there] = (here, e)
            refine ⟨_, rfl, _, rfl, by show 2 ≤ sizeLine; decide, fun tq htq => ?_⟩
            have Sq : Same H6' (upd H6' tq (.tup [.int (here : Int), .int (e : Int)])) := same_upd htq
            have htq' : upd H6' tq (.tup [.int (here : Int), .int (e : Int)]) tq = some (.tup [.int (here : Int), .int (e : Int)]) := upd_same
            refine ⟨_, rfl, _, rfl, fa, _, rfl, DPut.k (k := Sum.inl (v : Int)) (Sq _ _ k1) (small300 (by omega)), ?_⟩
            have FA8 := FoundAt.put (u := here) (e := e) (Sq _ _ k1) k2 (fun x => ⟨(k3 x).1, (k3 x).2.1, fun u e z => let ⟨q, a, b⟩ := (k3 x).2.2 u e z; ⟨q, a, Sq _ _ b⟩⟩) hvk htq'
            have hw8 : upd (upd H6' tq (.tup [.int (here : Int), .int (e : Int)])) fa (.dK (putK kvs (Sum.inl (v : Int)) (.ref tq))) wa = some (.lst (iN wt')) := by
              rw [upd_ne nfw.symm]
              exact Sq _ _ hw6
            -- waiting.append(there)
            refine ⟨_, rfl, .inl ⟨rfl, _, SqL.of hw8⟩, _, rfl, wa, _, _, rfl, rfl, hw8, small300 (by rw [iN_len]; omega), ?_⟩
            have k1q := Sq _ _ k1
            refine ⟨f' ++ [(v, some (here, e))], wt' ++ [v], _, _, rfl, same_new (same_new (S6.trans Sq) hfa) hwa0, FA8.other nfw.symm (fun x z => ?_), ?_, g9, ?_, fun x hx => ?_, fun x hx => ?_, fun j v' e' hj hs' => ?_, ?_, PI6.keep (fun b x hb => ?_), ?_, ?_⟩
            · rw [hw8] at z
              cases z
            · rw [upd_same, iN_append]
              rfl
            · rw [keys_snoc]
              exact List.mem_append_left _ hk6
            · rw [keys_snoc]
              rcases List.mem_append.mp hx with h | h
              · exact List.mem_append_left _ (wk6 x h)
              · exact List.mem_append_right _ h
            · rw [keys_snoc] at hx
              rcases List.mem_append.mp hx with h | h
              · rcases kd6 x h with h | h | h
                · exact .inl h
                · exact .inr (.inl (List.mem_append_left _ h))
                · exact .inr (.inr h.more)
              · exact .inr (.inl (List.mem_append_right _ h))
            · rw [keys_snoc]
              by_cases hji : j = i
              · subst hji
                rw [hst] at hs'
                cases hs'
                exact List.mem_append_right _ (List.mem_singleton.mpr rfl)
              · exact List.mem_append_left _ (dn6 j v' e' (by omega) hs')
            · rw [upd_ne npw, upd_ne npf]
              exact Sq _ _ hp6
            · have hbq := Sq _ _ hb
              rw [upd_ne (fun z => ?_), upd_ne (ne_of hbq k1q (by intro z; cases z))]
              · exact hbq
              · rw [z, Sq _ _ hw6] at hbq
                cases hbq
            · simp only [List.length_append, List.length_singleton] at hm ⊢
              omega
            · simp only [List.length_append, List.length_singleton]
              omega
        · rintro σ H6 ⟨f', wt', v5, v6, rfl, S6, FA6, hw6, g6, hk6, wk6, kd6, dn6, hp6, PI6, hm, wl6⟩
          refine ⟨2 * (s.net.n - f'.length) + wt'.length, by omega, f', wt', _, _, _, rfl, S6, FA6, hw6, g6, wk6, fun x hx => ?_, rfl, wl6⟩
          rcases kd6 x hx with h | h | h
          · subst h
            refine .inr fun v e hm => ?_
            rw [hsteps] at hm
            obtain ⟨j, hj, ej⟩ := List.mem_iff_getElem.mp hm
            exact dn6 j v e hj (by rw [List.getElem?_eq_getElem hj, ej])
          · exact .inl h
          · exact .inr h
theorem ok_node_cut {f : Addr} {fd : FuncData} (F : Fun K "node_cut" "node_cut" s_node_cut f fd) (D_reached : Def P w K mg base "reached" 3 ["net", "used"] (sp_reached cL cN)) (D_way : Def P w K mg base "way_to" 1 ["steps", "t"] sp_way_to) (D_with : Def P w K mg base "with_way" 1 ["used", "way"] sp_with_way) :
    FnOk P w K mg base CX0 4 f fd ["net", "t"] (sp_node_cut cL cN) := by
  obtain ⟨f_reached, d_reached, g_reached, k_reached, b_reached, G_reached⟩ := D_reached.ex
  obtain ⟨f_way_to, d_way_to, g_way_to, k_way_to, b_way_to, G_way_to⟩ := D_way.ex
  obtain ⟨f_with_way, d_with_way, g_with_way, k_with_way, b_with_way, G_with_way⟩ := D_with.ex
  refine F.ok sc_node_cut (fun vs H Q E h => ?_) (fun cdv A outer s H vs Q E hr h => ?_)
  · obtain ⟨a, s, c, L, as, ds, t, rfl, _⟩ := h
    rfl
  · obtain ⟨a, s, c, L, as, ds, t, rfl, N, ht0, htn, q⟩ := h
    have n16 := N.good.n16
    have m40 := N.good.m40
    refine ⟨_, (pss_cons (ps_set (i := 2) sc_node_cut.nd rfl (Or.inl rfl) pe_dnewK)
        (pss_cons (ps_set (i := 3) sc_node_cut.nd rfl (Or.inl rfl) pe_int)
        (pss_cons (ps_set (i := 4) sc_node_cut.nd rfl (Or.inl rfl) (pe_call G_reached (hr.mono (by decide)) (by rfl) g_reached k_reached b_reached .nil pass0 (pa_cons (pv 0) (pa_cons (pv 2) pa_nil))))
        (pss_cons (ps_while PassesOwn.never (pt_cmp (pc_din (hu_of hr) (pv 1) (pv 4))) (pss_cons (ps_set (i := 2) sc_node_cut.nd rfl (Or.inl rfl) (pe_call G_with_way (hr.mono (by decide)) (by rfl) g_with_way k_with_way b_with_way .nil pass0 (pa_cons (pv 2) (pa_cons (pe_call G_way_to (hr.mono (by decide)) (by rfl) g_way_to k_way_to b_way_to .nil pass0 (pa_cons (pv 4) (pa_cons (pv 1) pa_nil))) pa_nil))))
        (pss_cons (ps_set (i := 3) sc_node_cut.nd rfl (Or.inl rfl) (pe_op op_add (pv 3) pe_int))
        (pss_one (ps_set (i := 4) sc_node_cut.nd rfl (Or.inl rfl) (pe_call G_reached (hr.mono (by decide)) (by rfl) g_reached k_reached b_reached .nil pass0 (pa_cons (pv 0) (pa_cons (pv 2) pa_nil))))))))
        (pss_one (ps_ret (pv 3))))))), ?_⟩
    intro ua hua
    have S0 : Same H (upd H ua (.dK [])) := same_upd hua
    refine ⟨_, rfl, _, rfl, a, s, c, L, as, ds, ua, [], rfl, N.same S0, upd_same, fun H1 fa f S1 FA g cl => ?_⟩
    refine while_m (fun m σ H' => ∃ (used : List Nat) (k : Nat) (ua fa : Addr) (f : Found), σ = [some (.ref a), some (.int (t : Int)), some (.ref ua), some (.int (k : Int)), some (.ref fa)] ∧ Same H H' ∧ H' ua = some (.dK (usedK used)) ∧ FlowOk s.net t k used ∧ FoundAt H' fa f ∧ Grown s.net used f ∧ Closed s.net used f ∧ m = 41 - k)
      41 ⟨[], 0, ua, fa, f, rfl, S0.trans S1, S1 _ _ upd_same, flowOk_nil, FA, g, cl, rfl⟩ ?_
    rintro m σ H2 ⟨used, k, ua, fa, f, rfl, S2, hu, fl, FA, g, cl, rfl⟩
    have kmost := fl.most ht0
    obtain ⟨kvs, k1, k2, k3⟩ := id FA
    refine ⟨_, rfl, _, rfl, fa, _, rfl, DGet.k (k := Sum.inl (t : Int)) k1, _, rfl, ?_⟩
    by_cases htk : t ∈ keys f
    · have hs : (valV kvs (Sum.inl (t : Int))).isSome = true := by
        cases hl : look f t with
        | none => exact absurd htk (look_none.mp hl)
        | some o =>
          cases o with
          | none =>
            rw [(k3 t).2.1 hl]
            rfl
          | some ue =>
            obtain ⟨q', a', _⟩ := (k3 t).2.2 ue.1 ue.2 hl
            rw [a']
            rfl
      refine if_true_of hs ?_
      refine ⟨_, fun _ _ h => h, ?_⟩
      have flen := g.len N.good.net (by omega)
      -- used = with_way(used, way_to(steps, t))
      refine ⟨_, rfl, _, rfl, _, rfl, fa, s.net, used, f, t, rfl, FA, g, by omega, htk, fun H3 la l S3 hl hw => ?_⟩
      refine ⟨ua, la, used, l, many s.net, rfl, S3 _ _ hu, hl, fl.nodup, fl.lt, fun e he => (way_ends g hw htk e he).1, m40, fun H4 ua' S4 hu' => ?_⟩
      have fl' := fl.way g htk hw
      -- many = many + 1; steps = reached(net, used)
      refine ⟨_, rfl, _, _, rfl, rfl, ?_⟩
      have S4' := S2.trans (S3.trans S4)
      refine ⟨_, rfl, _, rfl, a, s, c, L, as, ds, ua', withWay used l, rfl, N.same S4', hu', fun H5 fa' f' S5 FA' g' cl' => ?_⟩
      have kmost' := fl'.most ht0
      exact ⟨41 - (k + 1), by omega, withWay used l, k + 1, ua', fa', f', rfl, S4'.trans S5, S5 _ _ hu', fl', FA', g', cl', rfl⟩
    · refine if_false_of (by rw [(k3 t).1 (look_none.mpr htk)]; rfl) ?_
      refine ⟨_, rfl, ?_⟩
      rw [← cut_eq N.good.net htn fl g cl htk] at q
      exact q _ S2
end
end NM
namespace NM
set_option maxRecDepth 100000
set_option maxHeartbeats 4000000
open PySem L2
open Rd03 (Net Abs tail head many into entry vec)
section
variable {P : Program} {w : World} {K : PySem.W.Frag} {mg : Str → Option Value} {base : Heap} {cL cN cD : Addr}
theorem NetAt.mono {cL cN : Addr} {H : Hp} {a : Addr} {s : Abs} {c c' : Nat} {L : Addr} {as ds : List Addr} (N : NetAt cL cN H a s c L as ds) (h : c ≤ c') : NetAt cL cN H a s c' L as ds :=
  ⟨N.net, N.lines, N.alen, N.dlen, N.line, fun e d q => let ⟨kvs, h1, h2, h3⟩ := N.dict e d q; ⟨kvs, h1, Nat.le_trans h2 h, h3⟩, N.nd, N.good⟩
theorem gives_of_does {H : Hp} {Q : VK} {a : Addr} {s : Abs} {c : Nat} {L : Addr} {as ds : List Addr} {x : Rd03.Call} (hs : (Rd03.does s x).1 = s) (N : NetAt cL cN H a s c L as ds) (k : Does cL cN H Q a s c L ds x) : GivesI H Q (ansOf (Rd03.does s x).2) :=
  fun H' q S hq hl => k H' q as ds hq hl (by rw [hs]; exact (N.same S).mono (Nat.le_succ c)) (fun b hb => .inl hb) fun b o e _ _ => S _ _ e
theorem ok_is_size {f : Addr} {fd : FuncData} (F : Fun K "is_size" "is_size" s_is_size f fd) (T : Txt K mg cL cN cD) (D_prime : Def P w K mg base "is_prime" 1 ["number"] sp_is_prime) : FnOk P w K mg base CX0 2 f fd ["n", "p", "h"] sp_is_size := by
  obtain ⟨f_is_prime, d_is_prime, g_is_prime, k_is_prime, b_is_prime, G_is_prime⟩ := D_prime.ex
  refine F.ok sc_is_size (fun vs H Q E h => ?_) (fun cdv A outer s H vs Q E hr h => ?_)
  · obtain ⟨n, p, h, rfl, _⟩ := h
    rfl
  · obtain ⟨n, p, h, rfl, q⟩ := h
    refine ⟨_, (pss_one (ps_ret (pe_and (pe_chain op_le op_le pe_int (pv 0) (pe_gint T.cMOST_NODES rfl)) (pe_and (pe_call G_is_prime (hr.mono (by decide)) (by rfl) g_is_prime k_is_prime b_is_prime .nil pass0 (pa_cons (pv 1) pa_nil)) (pe_one (pe_chain op_le op_le pe_int (pv 2) (pe_gint T.cMOST_MESSAGES rfl))))))), ?_⟩
    unfold isSize at q
    refine ⟨_, rfl, _, _, rfl, rfl, _, rfl, ?_⟩
    by_cases h1 : 1 ≤ n
    · refine if_true_of (decide_eq_true h1) ?_
      rw [decide_eq_true h1, Bool.true_and] at q
      refine ⟨_, _, rfl, rfl, _, rfl, ?_⟩
      by_cases h2 : n ≤ 16
      · refine if_true_of (decide_eq_true h2) ?_
        rw [decide_eq_true h2, Bool.true_and] at q
        refine ⟨_, rfl, p, rfl, fun H1 S1 => ⟨_, rfl, ?_⟩⟩
        cases hp : (decide (2 ≤ p) && decide (p ≤ 251) && Rd03.prime p.toNat) with
        | false =>
          rw [hp, Bool.false_and] at q
          exact if_false_of rfl (q _ S1)
        | true =>
          rw [hp, Bool.true_and] at q
          refine if_true_of rfl ?_
          refine ⟨_, rfl, _, _, rfl, rfl, _, rfl, ?_⟩
          by_cases h3 : 1 ≤ h
          · refine if_true_of (decide_eq_true h3) ?_
            rw [decide_eq_true h3, Bool.true_and] at q
            exact ⟨_, _, rfl, rfl, q _ S1⟩
          · refine if_false_of (decide_eq_false h3) ?_
            rw [decide_eq_false h3, Bool.false_and] at q
            exact q _ S1
      · refine if_false_of (decide_eq_false h2) ?_
        rw [decide_eq_false h2, Bool.false_and] at q
        exact q _ (Same.refl _)
    · refine if_false_of (decide_eq_false h1) ?_
      rw [decide_eq_false h1, Bool.false_and, Bool.false_and] at q
      exact ⟨_, rfl, if_false_of rfl (q _ (Same.refl _))⟩
theorem below_iff {z : Int} {n : Nat} : Rd03.below z n = true ↔ 0 ≤ z ∧ z < (n : Int) := by
  unfold Rd03.below
  rw [Bool.and_eq_true, decide_eq_true_eq, decide_eq_true_eq]
theorem below_nat {z : Int} {n : Nat} (h : Rd03.below z n = true) : ∃ m : Nat, z = (m : Int) ∧ m < n := by
  obtain ⟨h1, h2⟩ := below_iff.mp h
  exact ⟨z.toNat, by omega, by omega⟩
theorem line_ref {s : Abs} {u v : Int} (h : (Rd03.below u s.net.n && (Rd03.below v s.net.n && decide (u < v))) = false) : Rd03.does s (.line u v) = (s, Rd03.refused) := if_pos h
theorem line_full {s : Abs} {u v : Int} (h : (Rd03.below u s.net.n && (Rd03.below v s.net.n && decide (u < v))) = true) (hm : 40 ≤ many s.net) : Rd03.does s (.line u v) = (s, { value := -2 }) := by
  show (if _ then _ else _) = _
  rw [if_neg (by rw [h]; decide)]
  exact if_pos hm
theorem line_put {s : Abs} {u v : Int} (h : (Rd03.below u s.net.n && (Rd03.below v s.net.n && decide (u < v))) = true) (hm : ¬ 40 ≤ many s.net) :
    Rd03.does s (.line u v) = ({ s with net := { s.net with lines := s.net.lines ++ [(u.toNat, v.toNat)] }, mix := s.mix ++ [Rd03.blank] }, { value := (many s.net : Nat) }) := by
  show (if _ then _ else _) = _
  rw [if_neg (by rw [h]; decide)]
  exact if_neg hm
theorem snoc_get {α : Type} {l : List α} {x y : α} {i : Nat} (h : (l ++ [x])[i]? = some y) : (i < l.length ∧ l[i]? = some y) ∨ (i = l.length ∧ y = x) := by
  by_cases hi : i < l.length
  · rw [List.getElem?_append_left hi] at h
    exact .inl ⟨hi, h⟩
  · have hie : i = l.length := by
      have := (List.getElem?_eq_some_iff.mp h).1
      simp only [List.length_append, List.length_singleton] at this
      omega
    subst hie
    rw [List.getElem?_append_right (Nat.le_refl _), Nat.sub_self] at h
    exact .inr ⟨rfl, (Option.some.inj h).symm⟩
/-- one line more in the heap -/
theorem NetAt.line_more {H H' : Hp} {a : Addr} {s : Abs} {c : Nat} {L : Addr} {as ds : List Addr} {u v : Nat} {x dx d : Addr} (N : NetAt cL cN H a s c L as ds) (hu : u < v) (hv : v < s.net.n) (hm : many s.net < 40) (S : Same H H') (hd0 : H d = none)
    (hd : H' d = some (.dK [])) (hx : H' x = some (.ins cL dx (lineF u v d))) :
    NetAt cL cN (upd H' L (.lst (as.map V.ref ++ [.ref x]))) a { s with net := { s.net with lines := s.net.lines ++ [(u, v)] }, mix := s.mix ++ [Rd03.blank] } (c + 1) L (as ++ [x]) (ds ++ [d]) := by
  have hL := S _ _ N.lines
  have k : ∀ {b : Addr} {o : HO}, H' b = some o → (∀ l, o ≠ .lst l) → upd H' L (.lst (as.map V.ref ++ [.ref x])) b = some o := fun hb ho => by
    rw [upd_ne (ne_of hb hL (ho _))]
    exact hb
  have tl : ∀ e, e < many s.net → tail { s.net with lines := s.net.lines ++ [(u, v)] } e = tail s.net e ∧ head { s.net with lines := s.net.lines ++ [(u, v)] } e = head s.net e := fun e he => by
    have : (s.net.lines ++ [(u, v)]).getD e (0, 0) = s.net.lines.getD e (0, 0) := by
      rw [List.getD_eq_getElem?_getD, List.getD_eq_getElem?_getD, List.getElem?_append_left he]
    unfold tail head
    simp only [this]
    exact ⟨trivial, trivial⟩
  have tn : tail { s.net with lines := s.net.lines ++ [(u, v)] } (many s.net) = u ∧ head { s.net with lines := s.net.lines ++ [(u, v)] } (many s.net) = v := by
    have : (s.net.lines ++ [(u, v)]).getD (many s.net) (0, 0) = (u, v) := by simp [List.getD, many]
    unfold tail head
    simp only [this]
    exact ⟨trivial, trivial⟩
  have hmany : many { s.net with lines := s.net.lines ++ [(u, v)] } = many s.net + 1 := by simp [many]
  refine ⟨?_, ?_, ?_, ?_, ?_, ?_, ?_, N.good.line hu hv hm⟩
  · obtain ⟨dn, hn⟩ := N.net
    exact ⟨dn, k (S _ _ hn) fun l z => by cases z⟩
  · rw [upd_same, List.map_append]
    rfl
  · show _ = many { s.net with lines := s.net.lines ++ [(u, v)] }
    rw [hmany, List.length_append, N.alen]
    rfl
  · show _ = many { s.net with lines := s.net.lines ++ [(u, v)] }
    rw [hmany, List.length_append, N.dlen]
    rfl
  · intro e y z hy hz
    show ∃ dx, upd H' L (.lst (as.map V.ref ++ [.ref x])) y = some (HO.ins cL dx (lineF (tail { s.net with lines := s.net.lines ++ [(u, v)] } e) (head { s.net with lines := s.net.lines ++ [(u, v)] } e) z))
    rcases snoc_get hy with ⟨h1, h2⟩ | ⟨h1, h2⟩
    · rcases snoc_get hz with ⟨h3, h4⟩ | ⟨h3, h4⟩
      · obtain ⟨dn, hn⟩ := N.line e y z h2 h4
        obtain ⟨t1, t2⟩ := tl e (by rw [← N.alen]; exact h1)
        rw [t1, t2]
        exact ⟨dn, k (S _ _ hn) fun l z => by cases z⟩
      · rw [N.dlen, ← N.alen] at h3
        omega
    · rcases snoc_get hz with ⟨h3, h4⟩ | ⟨h3, h4⟩
      · rw [N.dlen, ← N.alen] at h3
        omega
      · subst h2 h4
        rw [h1, N.alen, tn.1, tn.2]
        exact ⟨dx, k hx fun l z => by cases z⟩
  · intro e z hz
    show AmtAt _ _ _ (entry (s.mix ++ [Rd03.blank]) e)
    rcases snoc_get hz with ⟨h3, h4⟩ | ⟨h3, h4⟩
    · obtain ⟨kvs, g1, g2, g3⟩ := N.dict e z h4
      exact ⟨kvs, k (S _ _ g1) (fun l z => by cases z), by omega, fun j hj => by rw [entry_snoc]; exact g3 j hj⟩
    · subst h4
      refine ⟨[], k hd (fun l z => by cases z), Nat.zero_le _, fun j hj => ?_⟩
      rw [entry_snoc]
      have : s.mix.getD e [] = [] := getD_out _ (by rw [N.good.mlen, h3, N.dlen]; exact Nat.le_refl _)
      unfold entry
      rw [this]
      rfl
  · rw [List.nodup_append]
    refine ⟨N.nd, by simp, fun b hb z hz e => ?_⟩
    rw [List.mem_singleton.mp hz] at e
    subst e
    obtain ⟨i, hi, e⟩ := List.mem_iff_getElem.mp hb
    obtain ⟨kvs, g1, _⟩ := N.dict i b (by rw [List.getElem?_eq_getElem hi, e])
    rw [hd0] at g1
    cases g1
theorem ok_put_line {f : Addr} {fd : FuncData} (F : Fun K "put_line" "put_line" s_put_line f fd) (T : Txt K mg cL cN cD) (D_has_node : MDef P w K mg base cN "has_node" 1 ["self", "t"] (sp_has_node cL cN)) (D_Line : CDef P w K mg base cL "Line" 1 ["self", "start", "goal"] (sp_Line cL)) :
    FnOk P w K mg base CX0 3 f fd ["net", "u", "v"] (sp_put_line cL cN) := by
  obtain ⟨f_has_node, d_has_node, m_has_node, b_has_node, G_has_node⟩ := D_has_node.ex
  obtain ⟨f_Line, d_Line, g_Line, M_Line, b_Line, G_Line⟩ := D_Line.ex
  refine F.ok sc_put_line (fun vs H Q E h => ?_) (fun cdv A outer s H vs Q E hr h => ?_)
  · obtain ⟨a, s, c, L, as, ds, u, v, rfl, _⟩ := h
    rfl
  · obtain ⟨a, s, c, L, as, ds, u, v, rfl, N, hc, k⟩ := h
    obtain ⟨dx, hn⟩ := N.net
    have no : ∀ {m : Str}, (m == ("nodes" : Str)) = false → (m == ("p" : Str)) = false → (m == ("messages" : Str)) = false → (m == ("lines" : Str)) = false → (netF s.net.n s.p s.h L).lookup m = none := netF_no
    refine ⟨_, (pss_cons (ps_if (PW.pt (pw_or (pt_not (pt_val (pe_meth (pv 0) T.clN m_has_node G_has_node (hr.mono (by decide)) b_has_node .nil pass0 (pa_cons (pv 1) pa_nil)))) (pw_or (pt_not (pt_val (pe_meth (pv 0) T.clN m_has_node G_has_node (hr.mono (by decide)) b_has_node .nil pass0 (pa_cons (pv 2) pa_nil)))) (pw_or1 (pt_cmpR op_ge (pv 1) (pv 2) (nomark _)))))) (pss_one (ps_ret (pe_lst (pa_cons (pe_gint T.cREFUSED rfl) pa_nil)))) pss_nil)
        (pss_cons (ps_if (pt_cmpR op_ge (pe_callB call_len_seq (by rfl) T.len PySem.boot_len (pa_cons (pe_fld (pv 0) rfl) pa_nil)) (pe_gint T.cMOST_LINES rfl) (nomark _)) (pss_one (ps_ret (pe_lst (pa_cons (pe_gint T.cFULL rfl) pa_nil)))) pss_nil)
        (pss_cons (ps_expr (pe_bm PySem.F.plainAttrs_list PySem.F.slot_list_append PySem.F.type_list_append mt_append (pe_fld (pv 0) rfl) (pa_cons (pe_make M_Line G_Line (hr.mono (by decide)) (by rfl) g_Line b_Line .nil pass0 (pa_cons (pv 1) (pa_cons (pv 2) pa_nil))) pa_nil)))
        (pss_one (ps_ret (pe_lst (pa_cons (pe_op op_sub (pe_callB call_len_seq (by rfl) T.len PySem.boot_len (pa_cons (pe_fld (pv 0) rfl) pa_nil)) pe_int) pa_nil))))))), ?_⟩
    have ref : (Rd03.below u s.net.n && (Rd03.below v s.net.n && decide (u < v))) = false → ∀ p, H p = none → Q (.ref p) (upd H p (.lst [.int (-1)])) := fun h p hp => by
      have q := gives_of_does (by rw [line_ref h]) N k
      rw [line_ref h] at q
      exact q _ p (same_upd hp) hp upd_same
    refine ⟨_, rfl, a, dx, _, rfl, hn, no (by decide +kernel) (by decide +kernel) (by decide +kernel) (by decide +kernel), _, rfl, a, s, c, L, as, ds, u, rfl, N, _, rfl, ?_⟩
    cases h1 : Rd03.below u s.net.n with
    | false =>
      refine if_true_of rfl ?_
      refine if_true_of rfl ?_
      exact ⟨by show 1 ≤ sizeLine; decide, ref (by rw [h1]; rfl)⟩
    | true =>
      refine if_false_of rfl ?_
      refine ⟨_, rfl, a, dx, _, rfl, hn, no (by decide +kernel) (by decide +kernel) (by decide +kernel) (by decide +kernel), _, rfl, a, s, c, L, as, ds, v, rfl, N, _, rfl, ?_⟩
      cases h2 : Rd03.below v s.net.n with
      | false =>
        refine if_true_of rfl ?_
        refine if_true_of rfl ?_
        exact ⟨by show 1 ≤ sizeLine; decide, ref (by rw [h2, Bool.false_and, Bool.and_false])⟩
      | true =>
        refine if_false_of rfl ?_
        refine ⟨_, rfl, _, rfl, _, _, rfl, rfl, _, rfl, ?_⟩
        by_cases h3 : u < v
        · refine if_false_of (decide_eq_false (by omega)) ?_
          have hcond : (Rd03.below u s.net.n && (Rd03.below v s.net.n && decide (u < v))) = true := by rw [h1, h2, decide_eq_true h3]; rfl
          refine ⟨_, rfl, a, cN, dx, _, _, rfl, hn, T.clN, T.nLines, netF_lines, L, _, rfl, .inl (SqL.of N.lines), _, _, rfl, rfl, _, rfl, ?_⟩
          rw [List.length_map, N.alen]
          by_cases h4 : 40 ≤ many s.net
          · refine if_true_of (decide_eq_true (by omega)) ?_
            refine ⟨by show 1 ≤ sizeLine; decide, fun p hp => ?_⟩
            have q := gives_of_does (by rw [line_full hcond h4]) N k
            rw [line_full hcond h4] at q
            exact q _ p (same_upd hp) hp upd_same
          · refine if_false_of (decide_eq_false (by omega)) ?_
            obtain ⟨u, rfl, hu⟩ := below_nat h1
            obtain ⟨v, rfl, hv⟩ := below_nat h2
            refine ⟨_, rfl, a, cN, dx, _, _, rfl, hn, T.clN, T.nLines, netF_lines, .inl ⟨rfl, _, SqL.of N.lines⟩, _, rfl, _, rfl, fun x dx' hx hdx hne => ?_⟩
            refine ⟨x, dx', u, v, rfl, upd_same, fun H1 d kp hd hd' hx' => ⟨rfl, ?_⟩⟩
            have S1 : Same H H1 := Same.made hx hdx kp
            have hd0 : H d = none := by
              have nx : d ≠ x := fun z => by rw [z, upd_same] at hd; cases hd
              have ndx : d ≠ dx' := fun z => by rw [z, upd_ne hne, upd_same] at hd; cases hd
              rw [upd_ne nx, upd_ne ndx] at hd
              exact hd
            have hL1 := S1 _ _ N.lines
            refine ⟨L, _, _, rfl, rfl, hL1, small300 (by rw [List.length_map, N.alen]; omega), ?_⟩
            have N2 := N.line_more (dx := dx') (by omega) hv (by omega) S1 hd0 hd' hx'
            obtain ⟨dn, hn2⟩ := N2.net
            refine ⟨_, rfl, a, cN, dn, _, _, rfl, hn2, T.clN, T.nLines, netF_lines, L, _, rfl, .inl (SqL.of upd_same), _, _, rfl, rfl, by show 1 ≤ sizeLine; decide, fun p hp => ?_⟩
            have e1 : (((as.map V.ref ++ [V.ref x]).length : Nat) : Int) - 1 = (many s.net : Int) := by
              rw [List.length_append, List.length_map, N.alen, List.length_singleton]
              omega
            have npL : p ≠ L := fun z => by rw [z, upd_same] at hp; cases hp
            have hp0 : H p = none := by
              rw [upd_ne npL] at hp
              exact S1.free hp
            have q := k
            unfold Does at q
            rw [line_put hcond h4] at q
            refine q _ p (as ++ [x]) (ds ++ [d]) hp0 ?_ (N2.same (same_upd hp)) (fun b hb => ?_) fun b o e hb1 hb2 => ?_
            · rw [upd_same]
              show some (HO.lst [V.int ((((as.map V.ref ++ [V.ref x]).length : Nat) : Int) - 1)]) = _
              rw [e1]
              rfl
            · rcases List.mem_append.mp hb with h | h
              · exact .inl h
              · rw [List.mem_singleton.mp h]
                exact .inr hd0
            · rw [upd_ne (ne_of_none e hp0), upd_ne hb1]
              exact S1 _ _ e
        · refine if_true_of (decide_eq_true (by omega)) ?_
          exact ⟨by show 1 ≤ sizeLine; decide, ref (by rw [decide_eq_false h3, Bool.and_false, Bool.and_false])⟩
end
end NM
namespace NM
set_option maxRecDepth 100000
set_option maxHeartbeats 4000000
open PySem L2
open Rd03 (Net Abs tail head many into entry vec)
section
variable {P : Program} {w : World} {K : PySem.W.Frag} {mg : Str → Option Value} {base : Heap} {cL cN cD : Addr}
/-! ### mix -/
theorem mix_cond {s : Abs} {e d : Int} {k : Int} : ((Rd03.below e (many s.net) && Rd03.below k s.p) = true ∧ ((tail s.net e.toNat = 0 ∧ Rd03.below d s.h = true) ∨ (tail s.net e.toNat ≠ 0 ∧ Rd03.below d (many s.net) = true ∧ head s.net d.toNat = tail s.net e.toNat))) ↔
    (Rd03.below e (many s.net) = true ∧ Rd03.below k s.p = true ∧ isPart s e.toNat d = true) := by
  unfold isPart
  rw [Bool.and_eq_true, and_assoc]
  by_cases h0 : tail s.net e.toNat = 0
  · simp [h0]
  · simp [h0]
theorem mix_ref {s : Abs} {e d k : Int} (h : ¬ (Rd03.below e (many s.net) = true ∧ Rd03.below k s.p = true ∧ isPart s e.toNat d = true)) : Rd03.does s (.mix e d k) = (s, Rd03.refused) := if_neg (fun z => h (mix_cond.mp z))
theorem mix_put {s : Abs} {e d k : Int} (h : Rd03.below e (many s.net) = true ∧ Rd03.below k s.p = true ∧ isPart s e.toNat d = true) :
    Rd03.does s (.mix e d k) = ({ s with mix := s.mix.set e.toNat ((s.mix.getD e.toNat []).set d.toNat k.toNat) }, { value := 0 }) := if_pos (mix_cond.mpr h)
theorem part_lt {s : Abs} (g : Good s) {e : Nat} {d : Int} (h : isPart s e d = true) : 0 ≤ d ∧ d < 40 := by
  unfold isPart at h
  have := g.h8
  have := g.m40
  split at h
  · obtain ⟨h1, h2⟩ := below_iff.mp h
    omega
  · rw [Bool.and_eq_true] at h
    obtain ⟨h1, h2⟩ := below_iff.mp h.1
    omega
theorem ok_mix {f : Addr} {fd : FuncData} (F : Fun K "mix" "mix" s_mix f fd) (T : Txt K mg cL cN cD) (D_has_line : MDef P w K mg base cN "has_line" 1 ["self", "e"] (sp_has_line cL cN)) (D_is_part : MDef P w K mg base cN "is_part" 2 ["self", "e", "d"] (sp_is_part cL cN)) :
    FnOk P w K mg base CX0 3 f fd ["net", "e", "d", "c"] (sp_mix cL cN) := by
  obtain ⟨f_has_line, d_has_line, m_has_line, b_has_line, G_has_line⟩ := D_has_line.ex
  obtain ⟨f_is_part, d_is_part, m_is_part, b_is_part, G_is_part⟩ := D_is_part.ex
  refine F.ok sc_mix (fun vs H Q E h => ?_) (fun cdv A outer s H vs Q E hr h => ?_)
  · obtain ⟨a, s, c, L, as, ds, e, d, k, rfl, _⟩ := h
    rfl
  · obtain ⟨a, s, c, L, as, ds, e, d, k, rfl, N, hc, kk⟩ := h
    obtain ⟨dx, hn⟩ := N.net
    have no : ∀ {m : Str}, (m == ("nodes" : Str)) = false → (m == ("p" : Str)) = false → (m == ("messages" : Str)) = false → (m == ("lines" : Str)) = false → (netF s.net.n s.p s.h L).lookup m = none := netF_no
    have ref : ¬ (Rd03.below e (many s.net) = true ∧ Rd03.below k s.p = true ∧ isPart s e.toNat d = true) → ∀ H', Same H H' → ∀ p, H' p = none → Q (.ref p) (upd H' p (.lst [.int (-1)])) := fun h H' S p hp => by
      have q := gives_of_does (by rw [mix_ref h]) N kk
      rw [mix_ref h] at q
      exact q _ p (S.trans (same_upd hp)) (S.free hp) upd_same
    refine ⟨_, (pss_cons (ps_if (PW.pt (pw_or (pt_not (pt_val (pe_meth (pv 0) T.clN m_has_line G_has_line (hr.mono (by decide)) b_has_line .nil pass0 (pa_cons (pv 1) pa_nil)))) (pw_or (pt_cmpR op_lt (pv 3) pe_int (nomark _)) (pw_or (pt_cmpR op_ge (pv 3) (pe_fld (pv 0) rfl) (nomark _)) (pw_or1 (pt_not (pt_val (pe_meth (pv 0) T.clN m_is_part G_is_part (hr.mono (by decide)) b_is_part .nil pass0 (pa_cons (pv 1) (pa_cons (pv 2) pa_nil)))))))))) (pss_one (ps_ret (pe_lst (pa_cons (pe_gint T.cREFUSED rfl) pa_nil)))) pss_nil)
        (pss_cons (ps_dput (hu_of hr) (pe_fld (pe_ix ix_list (pe_fld (pv 0) rfl) (pv 1) (fun _ _ => rfl)) rfl) (pv 2) (pv 3) rfl)
        (pss_one (ps_ret (pe_lst (pa_cons (pe_gint T.cDONE rfl) pa_nil)))))), ?_⟩
    refine ⟨_, rfl, a, dx, _, rfl, hn, no (by decide +kernel) (by decide +kernel) (by decide +kernel) (by decide +kernel), _, rfl, a, s, c, L, as, ds, e, rfl, N, _, rfl, ?_⟩
    cases h1 : Rd03.below e (many s.net) with
    | false =>
      refine if_true_of rfl ?_
      refine if_true_of rfl ?_
      exact ⟨by show 1 ≤ sizeLine; decide, ref (by rw [h1]; simp) _ (Same.refl _)⟩
    | true =>
      refine if_false_of rfl ?_
      refine ⟨_, rfl, _, _, rfl, rfl, _, rfl, ?_⟩
      by_cases h2 : k < 0
      · refine if_true_of (decide_eq_true h2) ?_
        refine if_true_of rfl ?_
        exact ⟨by show 1 ≤ sizeLine; decide, ref (fun z => by have := (below_iff.mp z.2.1).1; omega) _ (Same.refl _)⟩
      · refine if_false_of (decide_eq_false h2) ?_
        refine ⟨_, rfl, _, rfl, a, cN, dx, _, _, rfl, hn, T.clN, T.nP, netF_p, _, _, rfl, rfl, _, rfl, ?_⟩
        by_cases h3 : k < (s.p : Int)
        · refine if_false_of (decide_eq_false (by omega)) ?_
          obtain ⟨e, rfl, he⟩ := below_nat h1
          refine ⟨_, rfl, a, dx, _, rfl, hn, no (by decide +kernel) (by decide +kernel) (by decide +kernel) (by decide +kernel), _, rfl, _, rfl, a, s, c, L, as, ds, e, d, rfl, N, he, fun H1 S1 => ⟨_, rfl, ?_⟩⟩
          cases h4 : isPart s e d with
          | false =>
            refine if_true_of rfl ?_
            exact ⟨by show 1 ≤ sizeLine; decide, ref (fun z => by have := z.2.2; rw [Int.toNat_natCast, h4] at this; cases this) _ S1⟩
          | true =>
            refine if_false_of rfl ?_
            obtain ⟨d0, d40⟩ := part_lt N.good h4
            obtain ⟨d, rfl⟩ : ∃ m : Nat, d = (m : Int) := ⟨d.toNat, by omega⟩
            obtain ⟨k, rfl⟩ : ∃ m : Nat, k = (m : Int) := ⟨k.toNat, by omega⟩
            obtain ⟨xa, da, dx', kvs, g1, g2, g3, g4, g5, g6⟩ := N.at he
            -- net.lines[e].amounts[d] = c
            refine ⟨_, rfl, _, rfl, a, cN, dx, _, _, rfl, S1 _ _ hn, T.clN, T.nLines, netF_lines, _, rfl, L, _, _, _, rfl, rfl, SqL.of (S1 _ _ N.lines), atI_nat (map_at g1), xa, cL, dx', _, _, rfl, S1 _ _ g3, T.clL, T.nAmounts, lineF_amounts, _, rfl, da, _, rfl, DPut.k (k := Sum.inl (d : Int)) (S1 _ _ g4) (small300 (by omega)), ?_⟩
            refine ⟨by show 1 ≤ sizeLine; decide, fun p hp => ?_⟩
            have np : p ≠ da := fun z => by rw [z, upd_same] at hp; cases hp
            have hp0 : H p = none := by
              rw [upd_ne np] at hp
              exact S1.free hp
            have q := kk
            unfold Does at q
            rw [mix_put ⟨h1, below_iff.mpr ⟨by omega, h3⟩, by rw [Int.toNat_natCast]; exact h4⟩] at q
            simp only [Int.toNat_natCast] at q
            have hd1 := S1 _ _ g4
            have kp : ∀ {b : Addr} {o : HO}, H1 b = some o → b ≠ da → upd (upd H1 da (.dK (putK kvs (Sum.inl (d : Int)) (.int (k : Int))))) p (.lst [.int 0]) b = some o := fun {b} {o} hb nb => by
              have : b ≠ p := ne_of_none (H := upd H1 da (.dK (putK kvs (Sum.inl (d : Int)) (.int (k : Int))))) (by rw [upd_ne nb]; exact hb) hp
              rw [upd_ne this, upd_ne nb]
              exact hb
            have N1 := N.same S1
            have ent := fun e' d' => entry_set (K := s.mix) (e := e) (d := d) (c := k) (e' := e') (d' := d') (by rw [N.good.mlen]; exact he) (by rw [N.good.rows e he]; omega)
            refine q _ p as ds hp0 upd_same ⟨?_, ?_, N.alen, N.dlen, ?_, ?_, N.nd, N.good.mix he (by omega) (by omega)⟩ (fun b hb => .inl hb) fun b o hb hb1 hb2 => ?_
            · obtain ⟨dn, h⟩ := N1.net
              exact ⟨dn, kp h (ne_of h hd1 (by intro z; cases z))⟩
            · exact kp N1.lines (ne_of N1.lines hd1 (by intro z; cases z))
            · intro e' x' d' hx' hd'
              obtain ⟨dn, h⟩ := N1.line e' x' d' hx' hd'
              exact ⟨dn, kp h (ne_of h hd1 (by intro z; cases z))⟩
            · intro e' d' hd'
              by_cases hee : e' = e
              · subst hee
                have : d' = da := Option.some.inj (hd'.symm.trans g2)
                subst this
                refine ⟨putK kvs (Sum.inl (d : Int)) (.int (k : Int)), by rw [upd_ne (Ne.symm np), upd_same], Nat.le_trans (length_putK _ _ _) (Nat.succ_le_succ g5), fun j hj => ?_⟩
                show _ = V.int ((entry (s.mix.set e' ((s.mix.getD e' []).set d k)) e' j : Nat) : Int)
                rw [ent, valV_put]
                by_cases hjd : j = d
                · subst hjd
                  rw [if_pos rfl, if_pos ⟨rfl, rfl⟩]
                  rfl
                · rw [if_neg (fun z => hjd (by have := Sum.inl.inj z; omega)), if_neg (fun z => hjd z.2)]
                  exact g6 j hj
              · obtain ⟨kvs', i1, i2, i3⟩ := N1.dict e' d' hd'
                have nd : d' ≠ da := fun z => by
                  subst z
                  exact hee (nd_ix N.nd hd' g2)
                refine ⟨kvs', kp i1 nd, by omega, fun j hj => ?_⟩
                show _ = V.int ((entry (s.mix.set e ((s.mix.getD e []).set d k)) e' j : Nat) : Int)
                rw [ent, if_neg (fun z => hee z.1)]
                exact i3 j hj
            · refine kp (S1 _ _ hb) fun z => ?_
              rw [z] at hb2
              exact hb2 (List.mem_of_getElem? g2)
        · refine if_true_of (decide_eq_true (by omega)) ?_
          refine if_true_of rfl ?_
          exact ⟨by show 1 ≤ sizeLine; decide, ref (fun z => by have := (below_iff.mp z.2.1).2; omega) _ (Same.refl _)⟩
/-! ### what is told -/
theorem vector_ref {s : Abs} {e m : Int} (h : Rd03.below e (many s.net) = false) : Rd03.does s (.vector e m) = (s, Rd03.refused) := if_neg (by rw [h]; decide)
theorem vector_put {s : Abs} {e m : Int} (h : Rd03.below e (many s.net) = true) : Rd03.does s (.vector e m) = (s, { value := (s.h : Nat), numbers := (vec s.net s.p s.h s.mix e.toNat).take (Rd03.room_ m 8) }) := if_pos h
theorem ok_tell_vector {f : Addr} {fd : FuncData} (F : Fun K "tell_vector" "tell_vector" s_tell_vector f fd) (T : Txt K mg cL cN cD) (D_has_line : MDef P w K mg base cN "has_line" 1 ["self", "e"] (sp_has_line cL cN)) (D_vec : Def P w K mg base "vector_of" 4 ["net", "e"] (sp_vector_of cL cN)) :
    FnOk P w K mg base CX0 5 f fd ["net", "e", "most"] (sp_tell_vector cL cN) := by
  obtain ⟨f_has_line, d_has_line, m_has_line, b_has_line, G_has_line⟩ := D_has_line.ex
  obtain ⟨f_vector_of, d_vector_of, g_vector_of, k_vector_of, b_vector_of, G_vector_of⟩ := D_vec.ex
  refine F.ok sc_tell_vector (fun vs H Q E h => ?_) (fun cdv A outer s H vs Q E hr h => ?_)
  · obtain ⟨a, s, c, L, as, ds, e, m, rfl, _⟩ := h
    rfl
  · obtain ⟨a, s, c, L, as, ds, e, m, rfl, N, q⟩ := h
    obtain ⟨dx, hn⟩ := N.net
    have h8 := N.good.h8
    refine ⟨_, (pss_cons (ps_if (pt_not (pt_val (pe_meth (pv 0) T.clN m_has_line G_has_line (hr.mono (by decide)) b_has_line .nil pass0 (pa_cons (pv 1) pa_nil)))) (pss_one (ps_ret (pe_lst (pa_cons (pe_gint T.cREFUSED rfl) pa_nil)))) pss_nil)
        (pss_cons (ps_if (PW.pt (pw_or (pt_cmpR op_lt (pv 2) pe_int (nomark _)) (pw_or1 (pt_cmpR op_gt (pv 2) (pe_gint T.cMOST_MESSAGES rfl) (nomark _))))) (pss_one (ps_ret (pe_lst (pa_cons (pe_fld (pv 0) rfl) pa_nil)))) pss_nil)
        (pss_one (ps_ret (pe_op op_cat (pe_lst (pa_cons (pe_fld (pv 0) rfl) pa_nil)) (pe_slice sl_list (pe_call G_vector_of (hr.mono (by decide)) (by rfl) g_vector_of k_vector_of b_vector_of .nil pass0 (pa_cons (pv 0) (pa_cons (pv 1) pa_nil))) po_none (po_some (pv 2)))))))), ?_⟩
    refine ⟨_, rfl, a, dx, _, rfl, hn, netF_no (by decide +kernel) (by decide +kernel) (by decide +kernel) (by decide +kernel), _, rfl, a, s, c, L, as, ds, e, rfl, N, _, rfl, ?_⟩
    cases h1 : Rd03.below e (many s.net) with
    | false =>
      refine if_true_of rfl ?_
      rw [vector_ref h1] at q
      exact ⟨by show 1 ≤ sizeLine; decide, fun p hp => q _ p (same_upd hp) hp upd_same⟩
    | true =>
      refine if_false_of rfl ?_
      rw [vector_put h1] at q
      have none_case : ¬ (1 ≤ m ∧ m ≤ 8) → ∀ p, H p = none → Q (.ref p) (upd H p (.lst [.int (s.h : Int)])) := fun h p hp => by
        have : Rd03.room_ m 8 = 0 := if_neg h
        rw [this] at q
        exact q _ p (same_upd hp) hp upd_same
      refine ⟨_, rfl, _, _, rfl, rfl, _, rfl, ?_⟩
      by_cases h2 : m < 1
      · refine if_true_of (decide_eq_true h2) ?_
        refine if_true_of rfl ?_
        exact ⟨_, rfl, a, cN, dx, _, _, rfl, hn, T.clN, T.nMessages, netF_messages, by show 1 ≤ sizeLine; decide, none_case (by omega)⟩
      · refine if_false_of (decide_eq_false h2) ?_
        refine ⟨_, rfl, _, _, rfl, rfl, _, rfl, ?_⟩
        by_cases h3 : m > 8
        · refine if_true_of (decide_eq_true h3) ?_
          exact ⟨_, rfl, a, cN, dx, _, _, rfl, hn, T.clN, T.nMessages, netF_messages, by show 1 ≤ sizeLine; decide, none_case (by omega)⟩
        · refine if_false_of (decide_eq_false h3) ?_
          have hroom : Rd03.room_ m 8 = m.toNat := if_pos (by constructor <;> omega)
          rw [hroom] at q
          obtain ⟨e, rfl, he⟩ := below_nat h1
          obtain ⟨m, rfl⟩ : ∃ j : Nat, m = (j : Int) := ⟨m.toNat, by omega⟩
          refine ⟨_, rfl, a, cN, dx, _, _, rfl, hn, T.clN, T.nMessages, netF_messages, by show 1 ≤ sizeLine; decide, fun l hl => ?_⟩
          have S0 : Same H (upd H l (.lst [.int (s.h : Int)])) := same_upd hl
          refine ⟨_, rfl, _, rfl, a, s, c, L, as, ds, e, rfl, N.same S0, he, fun H1 v S1 hv => ?_⟩
          refine ⟨_, rfl, _, rfl, v, _, rfl, SqL.of hv, fun p hp => ?_⟩
          have Sp : Same H1 (upd H1 p (.lst (cutV (iN (vec s.net s.p s.h s.mix e)) none (some (m : Int))))) := same_upd hp
          have ecut : cutV (iN (vec s.net s.p s.h s.mix e)) none (some (m : Int)) = iN ((vec s.net s.p s.h s.mix e).take m) := by
            unfold cutV
            rw [HT.sIx_none, HT.sIx_nat, List.drop_zero, Nat.sub_zero, iN_len, vec_len]
            have h2 : (vec s.net s.p s.h s.mix e).take (min m s.h) = (vec s.net s.p s.h s.mix e).take m := by
              by_cases hms : m ≤ s.h
              · rw [Nat.min_eq_left hms]
              · rw [Nat.min_eq_right (by omega), List.take_of_length_le (by rw [vec_len]; omega), List.take_of_length_le (by rw [vec_len]; omega)]
            rw [← h2]
            exact List.map_take.symm
          refine ⟨l, p, _, _, rfl, rfl, Sp _ _ (S1 _ _ upd_same), upd_same, small300' ?_, fun r hr => ?_⟩
          · rw [ecut, iN_len, List.length_take, vec_len]
            simp only [List.length_cons, List.length_nil]
            omega
          · have S2 := S0.trans (S1.trans Sp)
            refine q _ r (S2.trans (same_upd hr)) (S2.free hr) ?_
            rw [upd_same, ecut]
            show some (HO.lst (V.int (s.h : Int) :: iN ((vec s.net s.p s.h s.mix e).take m))) = some (HO.lst (V.int (s.h : Int) :: (((vec s.net s.p s.h s.mix (e : Int).toNat).take (m : Int).toNat).map fun (b : Nat) => (b : Int)).map V.int))
            rw [Int.toNat_natCast, Int.toNat_natCast, iN_ints]
theorem rank_ref {s : Abs} {t : Int} (h : Rd03.below t s.net.n = false) : Rd03.does s (.rank t) = (s, Rd03.refused) := if_neg (by rw [h]; decide)
theorem rank_put {s : Abs} {t : Int} (h : Rd03.below t s.net.n = true) : Rd03.does s (.rank t) = (s, { value := (Rd03.rank s.net s.p s.h s.mix t.toNat : Nat) }) := if_pos h
theorem ok_tell_rank {f : Addr} {fd : FuncData} (F : Fun K "tell_rank" "tell_rank" s_tell_rank f fd) (T : Txt K mg cL cN cD) (D_has_node : MDef P w K mg base cN "has_node" 1 ["self", "t"] (sp_has_node cL cN)) (D_rank : Def P w K mg base "node_rank" 4 ["net", "t"] (sp_node_rank cL cN)) :
    FnOk P w K mg base CX0 5 f fd ["net", "t"] (sp_tell_rank cL cN) := by
  obtain ⟨f_has_node, d_has_node, m_has_node, b_has_node, G_has_node⟩ := D_has_node.ex
  obtain ⟨f_node_rank, d_node_rank, g_node_rank, k_node_rank, b_node_rank, G_node_rank⟩ := D_rank.ex
  refine F.ok sc_tell_rank (fun vs H Q E h => ?_) (fun cdv A outer s H vs Q E hr h => ?_)
  · obtain ⟨a, s, c, L, as, ds, t, rfl, _⟩ := h
    rfl
  · obtain ⟨a, s, c, L, as, ds, t, rfl, N, q⟩ := h
    obtain ⟨dx, hn⟩ := N.net
    refine ⟨_, (pss_cons (ps_if (pt_not (pt_val (pe_meth (pv 0) T.clN m_has_node G_has_node (hr.mono (by decide)) b_has_node .nil pass0 (pa_cons (pv 1) pa_nil)))) (pss_one (ps_ret (pe_lst (pa_cons (pe_gint T.cREFUSED rfl) pa_nil)))) pss_nil)
        (pss_one (ps_ret (pe_lst (pa_cons (pe_call G_node_rank (hr.mono (by decide)) (by rfl) g_node_rank k_node_rank b_node_rank .nil pass0 (pa_cons (pv 0) (pa_cons (pv 1) pa_nil))) pa_nil))))), ?_⟩
    refine ⟨_, rfl, a, dx, _, rfl, hn, netF_no (by decide +kernel) (by decide +kernel) (by decide +kernel) (by decide +kernel), _, rfl, a, s, c, L, as, ds, t, rfl, N, _, rfl, ?_⟩
    cases h1 : Rd03.below t s.net.n with
    | false =>
      refine if_true_of rfl ?_
      rw [rank_ref h1] at q
      exact ⟨by show 1 ≤ sizeLine; decide, fun p hp => q _ p (same_upd hp) hp upd_same⟩
    | true =>
      refine if_false_of rfl ?_
      rw [rank_put h1] at q
      obtain ⟨t, rfl, ht⟩ := below_nat h1
      refine ⟨_, rfl, _, rfl, a, s, c, L, as, ds, t, rfl, N, fun H1 S1 => ⟨by show 1 ≤ sizeLine; decide, fun p hp => ?_⟩⟩
      exact q _ p (S1.trans (same_upd hp)) (S1.free hp) upd_same
theorem cut_ref {s : Abs} {t : Int} (h : ¬ (Rd03.below t s.net.n = true ∧ 1 ≤ t)) : Rd03.does s (.cut t) = (s, Rd03.refused) := if_neg h
theorem cut_put {s : Abs} {t : Int} (h : Rd03.below t s.net.n = true ∧ 1 ≤ t) : Rd03.does s (.cut t) = (s, { value := (Rd03.cut s.net t.toNat : Nat) }) := if_pos h
theorem ok_tell_cut {f : Addr} {fd : FuncData} (F : Fun K "tell_cut" "tell_cut" s_tell_cut f fd) (T : Txt K mg cL cN cD) (D_has_node : MDef P w K mg base cN "has_node" 1 ["self", "t"] (sp_has_node cL cN)) (D_cut : Def P w K mg base "node_cut" 4 ["net", "t"] (sp_node_cut cL cN)) :
    FnOk P w K mg base CX0 5 f fd ["net", "t"] (sp_tell_cut cL cN) := by
  obtain ⟨f_has_node, d_has_node, m_has_node, b_has_node, G_has_node⟩ := D_has_node.ex
  obtain ⟨f_node_cut, d_node_cut, g_node_cut, k_node_cut, b_node_cut, G_node_cut⟩ := D_cut.ex
  refine F.ok sc_tell_cut (fun vs H Q E h => ?_) (fun cdv A outer s H vs Q E hr h => ?_)
  · obtain ⟨a, s, c, L, as, ds, t, rfl, _⟩ := h
    rfl
  · obtain ⟨a, s, c, L, as, ds, t, rfl, N, q⟩ := h
    obtain ⟨dx, hn⟩ := N.net
    refine ⟨_, (pss_cons (ps_if (PW.pt (pw_or (pt_cmpR op_eq (pv 1) pe_int (nomark _)) (pw_or1 (pt_not (pt_val (pe_meth (pv 0) T.clN m_has_node G_has_node (hr.mono (by decide)) b_has_node .nil pass0 (pa_cons (pv 1) pa_nil))))))) (pss_one (ps_ret (pe_lst (pa_cons (pe_gint T.cREFUSED rfl) pa_nil)))) pss_nil)
        (pss_one (ps_ret (pe_lst (pa_cons (pe_call G_node_cut (hr.mono (by decide)) (by rfl) g_node_cut k_node_cut b_node_cut .nil pass0 (pa_cons (pv 0) (pa_cons (pv 1) pa_nil))) pa_nil))))), ?_⟩
    refine ⟨_, rfl, rfl, _, rfl, ?_⟩
    by_cases h0 : t = 0
    · refine if_true_of (decide_eq_true (by rw [h0])) ?_
      refine if_true_of rfl ?_
      rw [cut_ref (by omega)] at q
      exact ⟨by show 1 ≤ sizeLine; decide, fun p hp => q _ p (same_upd hp) hp upd_same⟩
    · refine if_false_of (decide_eq_false fun z => h0 (V.int.inj z)) ?_
      refine ⟨_, rfl, a, dx, _, rfl, hn, netF_no (by decide +kernel) (by decide +kernel) (by decide +kernel) (by decide +kernel), _, rfl, a, s, c, L, as, ds, t, rfl, N, _, rfl, ?_⟩
      cases h1 : Rd03.below t s.net.n with
      | false =>
        refine if_true_of rfl ?_
        rw [cut_ref (by rw [h1]; simp)] at q
        exact ⟨by show 1 ≤ sizeLine; decide, fun p hp => q _ p (same_upd hp) hp upd_same⟩
      | true =>
        refine if_false_of rfl ?_
        have := (below_iff.mp h1).1
        rw [cut_put ⟨h1, by omega⟩] at q
        obtain ⟨t, rfl, ht⟩ := below_nat h1
        refine ⟨_, rfl, _, rfl, a, s, c, L, as, ds, t, rfl, N, by omega, ht, fun H1 S1 => ⟨by show 1 ≤ sizeLine; decide, fun p hp => ?_⟩⟩
        exact q _ p (S1.trans (same_upd hp)) (S1.free hp) upd_same
theorem send_ref {s : Abs} {e : Int} {l : List Nat} {n : Int} (h : ¬ (Rd03.below e (many s.net) = true ∧ n = (s.h : Int) ∧ l.length = s.h ∧ (l.all fun x => decide (x < s.p)) = true)) : Rd03.does s (.send e l n) = (s, Rd03.refused) := if_neg h
theorem send_put {s : Abs} {e : Int} {l : List Nat} {n : Int} (h : Rd03.below e (many s.net) = true ∧ n = (s.h : Int) ∧ l.length = s.h ∧ (l.all fun x => decide (x < s.p)) = true) :
    Rd03.does s (.send e l n) = (s, { value := ((((vec s.net s.p s.h s.mix e.toNat).zip l).map fun z => z.1 * z.2).sum % s.p : Nat) }) := if_pos h
theorem ok_send {f : Addr} {fd : FuncData} (F : Fun K "send" "send" s_send f fd) (T : Txt K mg cL cN cD) (D_has_line : MDef P w K mg base cN "has_line" 1 ["self", "e"] (sp_has_line cL cN)) (D_carried : Def P w K mg base "carried" 5 ["net", "e", "messages"] (sp_carried cL cN)) :
    FnOk P w K mg base CX0 6 f fd ["net", "e", "messages"] (sp_send cL cN) := by
  obtain ⟨f_has_line, d_has_line, m_has_line, b_has_line, G_has_line⟩ := D_has_line.ex
  obtain ⟨f_carried, d_carried, g_carried, k_carried, b_carried, G_carried⟩ := D_carried.ex
  refine F.ok sc_send (fun vs H Q E h => ?_) (fun cdv A outer s H vs Q E hr h => ?_)
  · obtain ⟨a, s, c, L, as, ds, e, m, row, rfl, _⟩ := h
    rfl
  · obtain ⟨a, s, c, L, as, ds, e, m, row, rfl, N, hm, h255, hl8, q⟩ := h
    obtain ⟨dx, hn⟩ := N.net
    obtain ⟨ms, rfl⟩ : ∃ ms : List Nat, row = ms.map fun (n : Nat) => (n : Int) := by
      refine ⟨row.map Int.toNat, ?_⟩
      rw [List.map_map]
      symm
      conv => rhs; rw [← List.map_id row]
      refine List.map_congr_left fun z hz => ?_
      show ((z.toNat : Nat) : Int) = z
      have := (h255 z hz).1
      omega
    have e1 : Rd03Neutral.natsOf (ms.map fun (n : Nat) => (n : Int)) = ms := by
      unfold Rd03Neutral.natsOf
      rw [List.map_map]
      conv => rhs; rw [← List.map_id ms]
      refine List.map_congr_left fun z hz => ?_
      show ((z : Nat) : Int).toNat = z
      omega
    rw [e1] at q
    rw [← iN_ints] at hm
    have lm : (ms.map fun (n : Nat) => (n : Int)).length = ms.length := List.length_map _
    rw [lm] at q hl8
    refine ⟨_, (pss_cons (ps_if (PW.pt (pw_or (pt_not (pt_val (pe_meth (pv 0) T.clN m_has_line G_has_line (hr.mono (by decide)) b_has_line .nil pass0 (pa_cons (pv 1) pa_nil)))) (pw_or1 (pt_cmpR op_ne (pe_callB call_len_seq (by rfl) T.len PySem.boot_len (pa_cons (pv 2) pa_nil)) (pe_fld (pv 0) rfl) (nomark _))))) (pss_one (ps_ret (pe_lst (pa_cons (pe_gint T.cREFUSED rfl) pa_nil)))) pss_nil)
        (pss_cons (ps_if (pt_not (pt_val (pe_callB (cr_all rfl) (by rfl) T.all (by decide +kernel) (pa_cons (pe_lc (own := [("message", 3)]) (g := (gName 3)) (tt := tYes) (te := (tOp (rI0 fun i j => .bl (decide (i < j))) (tVar 3) (tFld K (tVar 0) "p"))) rfl sc_send.nd (pi_list (pv 2)) (blkOk_by (own := [("message", 3)]) (N := ["net", "e", "messages", "message"]) (sc := defScope s_send) (by decide +kernel)) (fun _ _ _ _ _ => (pg_name (i := 3) sc_send.nd rfl (Or.inl rfl))) (fun _ _ _ _ _ => pts_nil) (fun _ _ _ _ _ => (pe_cmpR op_lt (pv 3) (pe_fld (pv 0) rfl) (nomark _)))) pa_nil)))) (pss_one (ps_ret (pe_lst (pa_cons (pe_gint T.cREFUSED rfl) pa_nil)))) pss_nil)
        (pss_one (ps_ret (pe_lst (pa_cons (pe_call G_carried (hr.mono (by decide)) (by rfl) g_carried k_carried b_carried .nil pass0 (pa_cons (pv 0) (pa_cons (pv 1) (pa_cons (pv 2) pa_nil)))) pa_nil)))))), ?_⟩
    refine ⟨_, rfl, a, dx, _, rfl, hn, netF_no (by decide +kernel) (by decide +kernel) (by decide +kernel) (by decide +kernel), _, rfl, a, s, c, L, as, ds, e, rfl, N, _, rfl, ?_⟩
    cases h1 : Rd03.below e (many s.net) with
    | false =>
      refine if_true_of rfl ?_
      refine if_true_of rfl ?_
      rw [send_ref (by rw [h1]; simp)] at q
      exact ⟨by show 1 ≤ sizeLine; decide, fun p hp => q _ p (same_upd hp) hp upd_same⟩
    | true =>
      refine if_false_of rfl ?_
      refine ⟨_, rfl, m, _, rfl, .inl (SqL.of hm), _, rfl, a, cN, dx, _, _, rfl, hn, T.clN, T.nMessages, netF_messages, rfl, _, rfl, ?_⟩
      rw [iN_len]
      by_cases h2 : ms.length = s.h
      · refine if_false_of (by rw [decide_eq_true (by rw [h2])]; rfl) ?_
        -- all([message < net.p for message in messages])
        refine ⟨_, rfl, m, rfl, ⟨_, SqL.of hm⟩, fun D hD => ?_⟩
        refine lc_it (n := ms.length) (CompP H D fun i => ((ms.take i).map fun x => decide (x < s.p)).map V.bl) (comp_start hD rfl) (fun i H3 hi P => ?_) (fun H3 P => ?_) (fun i x H3 H3' hi P y => ?_) (fun H3 P => ?_)
        · exact ⟨_, _, SqL.of (P.2 _ _ hm), iN_at (List.getElem?_eq_getElem hi)⟩
        · exact ⟨_, SqL.of (P.2 _ _ hm), by rw [iN_len]; exact Nat.le_refl _⟩
        · obtain ⟨rfl, hy⟩ := y
          obtain ⟨d, hd, rfl⟩ := iN_get (hy _ (SqL.of (P.2 _ _ hm)))
          refine ⟨rfl, ?_⟩
          refine ⟨_, rfl, _, rfl, a, cN, dx, _, _, rfl, P.2 _ _ hn, T.clN, T.nP, netF_p, _, _, rfl, rfl, ?_⟩
          refine comp_yes hD P (Same.refl _) ?_ (small300 ?_)
          · rw [take_more hd, List.map_append, List.map_append]
            congr 1
            show [V.bl (decide (d < s.p))] = [V.bl (decide ((d : Int) < (s.p : Int)))]
            congr 2
            by_cases hds : d < s.p
            · rw [decide_eq_true hds, decide_eq_true (by omega)]
            · rw [decide_eq_false hds, decide_eq_false (by omega)]
          · simp only [List.length_map, List.length_take]
            omega
        · have P1 : H3 D = some (.lst (((ms.take ms.length).map fun x => decide (x < s.p)).map V.bl)) := P.1
          rw [List.take_length] at P1
          refine ⟨D, _, rfl, SqL.of P1, _, rfl, ?_⟩
          rw [List.all_map]
          have e2 : ms.all (id ∘ fun x => decide (x < s.p)) = ms.all fun x => decide (x < s.p) := rfl
          rw [e2]
          cases h3 : ms.all fun x => decide (x < s.p) with
          | false =>
            refine if_true_of rfl ?_
            rw [send_ref (by rw [h3]; simp)] at q
            exact ⟨by show 1 ≤ sizeLine; decide, fun p hp => q _ p (P.2.trans (same_upd hp)) (P.2.free hp) upd_same⟩
          | true =>
            refine if_false_of rfl ?_
            rw [send_put ⟨h1, by omega, h2, h3⟩] at q
            obtain ⟨e, rfl, he⟩ := below_nat h1
            refine ⟨_, rfl, _, rfl, _, rfl, a, s, c, L, as, ds, e, m, ms, rfl, N.same P.2, he, P.2 _ _ hm, h2, fun H4 S4 => ⟨by show 1 ≤ sizeLine; decide, fun p hp => ?_⟩⟩
            have S5 := P.2.trans S4
            exact q _ p (S5.trans (same_upd hp)) (S5.free hp) upd_same
      · refine if_true_of (by rw [decide_eq_false fun z => h2 (by have := V.int.inj z; omega)]; rfl) ?_
        rw [send_ref (by simp [h2])] at q
        exact ⟨by show 1 ≤ sizeLine; decide, fun p hp => q _ p (same_upd hp) hp upd_same⟩
end
end NM
namespace NM
set_option maxRecDepth 100000
set_option maxHeartbeats 4000000
open PySem L2
open Rd03 (Net Abs tail head many into entry vec)
section
variable {P : Program} {w : World} {K : PySem.W.Frag} {mg : Str → Option Value} {base : Heap} {cL cN cD : Addr}
theorem fst_vector {s : Abs} {e m : Int} : (Rd03.does s (.vector e m)).1 = s := by
  unfold Rd03.does
  dsimp only
  split <;> rfl
theorem fst_rank {s : Abs} {t : Int} : (Rd03.does s (.rank t)).1 = s := by
  unfold Rd03.does
  dsimp only
  split <;> rfl
theorem fst_cut {s : Abs} {t : Int} : (Rd03.does s (.cut t)).1 = s := by
  unfold Rd03.does
  dsimp only
  split <;> rfl
theorem fst_send {s : Abs} {e : Int} {l : List Nat} {n : Int} : (Rd03.does s (.send e l n)).1 = s := by
  unfold Rd03.does
  dsimp only
  split <;> rfl
theorem int_ne {a b : Int} (h : ¬ a = b) : decide (V.int a = V.int b) = false := decide_eq_false fun z => h (V.int.inj z)
theorem ok_answered {f : Addr} {fd : FuncData} (F : Fun K "answered" "answered" s_answered f fd) (T : Txt K mg cL cN cD) (D1 : Def P w K mg base "put_line" 3 ["net", "u", "v"] (sp_put_line cL cN)) (D2 : Def P w K mg base "mix" 3 ["net", "e", "d", "c"] (sp_mix cL cN))
    (D3 : Def P w K mg base "tell_vector" 5 ["net", "e", "most"] (sp_tell_vector cL cN)) (D4 : Def P w K mg base "tell_rank" 5 ["net", "t"] (sp_tell_rank cL cN)) (D5 : Def P w K mg base "tell_cut" 5 ["net", "t"] (sp_tell_cut cL cN)) (D6 : Def P w K mg base "send" 6 ["net", "e", "messages"] (sp_send cL cN)) :
    FnOk P w K mg base CX0 7 f fd ["net", "word", "numbers", "row"] (sp_answered cL cN) := by
  obtain ⟨f_put_line, d_put_line, g_put_line, k_put_line, b_put_line, G_put_line⟩ := D1.ex
  obtain ⟨f_mix, d_mix, g_mix, k_mix, b_mix, G_mix⟩ := D2.ex
  obtain ⟨f_tell_vector, d_tell_vector, g_tell_vector, k_tell_vector, b_tell_vector, G_tell_vector⟩ := D3.ex
  obtain ⟨f_tell_rank, d_tell_rank, g_tell_rank, k_tell_rank, b_tell_rank, G_tell_rank⟩ := D4.ex
  obtain ⟨f_tell_cut, d_tell_cut, g_tell_cut, k_tell_cut, b_tell_cut, G_tell_cut⟩ := D5.ex
  obtain ⟨f_send, d_send, g_send, k_send, b_send, G_send⟩ := D6.ex
  refine F.ok sc_answered (fun vs H Q E h => ?_) (fun cdv A outer s H vs Q E hr h => ?_)
  · obtain ⟨a, s, c, L, as, ds, w, nu, ro, nums, row, x, rfl, _⟩ := h
    rfl
  · obtain ⟨a, s, c, L, as, ds, w, nu, ro, nums, row, x, rfl, N, hc, hnu, hro, hx, w0, w1, k⟩ := h
    refine ⟨_, (pss_cons (ps_if (pt_cmpR op_eq (pv 1) (pe_gint T.cLINE rfl) (nomark _)) (pss_one (ps_ret (pe_call G_put_line (hr.mono (by decide)) (by rfl) g_put_line k_put_line b_put_line .nil pass0 (pa_cons (pv 0) (pa_cons (pe_ix ix_list (pv 2) pe_int (fun _ _ => rfl)) (pa_cons (pe_ix ix_list (pv 2) pe_int (fun _ _ => rfl)) pa_nil)))))) pss_nil)
        (pss_cons (ps_if (pt_cmpR op_eq (pv 1) (pe_gint T.cMIX rfl) (nomark _)) (pss_one (ps_ret (pe_call G_mix (hr.mono (by decide)) (by rfl) g_mix k_mix b_mix .nil pass0 (pa_cons (pv 0) (pa_cons (pe_ix ix_list (pv 2) pe_int (fun _ _ => rfl)) (pa_cons (pe_ix ix_list (pv 2) pe_int (fun _ _ => rfl)) (pa_cons (pe_ix ix_list (pv 2) pe_int (fun _ _ => rfl)) pa_nil))))))) pss_nil)
        (pss_cons (ps_if (pt_cmpR op_eq (pv 1) (pe_gint T.cVECTOR rfl) (nomark _)) (pss_one (ps_ret (pe_call G_tell_vector (hr.mono (by decide)) (by rfl) g_tell_vector k_tell_vector b_tell_vector .nil pass0 (pa_cons (pv 0) (pa_cons (pe_ix ix_list (pv 2) pe_int (fun _ _ => rfl)) (pa_cons (pe_ix ix_list (pv 2) pe_int (fun _ _ => rfl)) pa_nil)))))) pss_nil)
        (pss_cons (ps_if (pt_cmpR op_eq (pv 1) (pe_gint T.cRANK rfl) (nomark _)) (pss_one (ps_ret (pe_call G_tell_rank (hr.mono (by decide)) (by rfl) g_tell_rank k_tell_rank b_tell_rank .nil pass0 (pa_cons (pv 0) (pa_cons (pe_ix ix_list (pv 2) pe_int (fun _ _ => rfl)) pa_nil))))) pss_nil)
        (pss_cons (ps_if (pt_cmpR op_eq (pv 1) (pe_gint T.cCUT rfl) (nomark _)) (pss_one (ps_ret (pe_call G_tell_cut (hr.mono (by decide)) (by rfl) g_tell_cut k_tell_cut b_tell_cut .nil pass0 (pa_cons (pv 0) (pa_cons (pe_ix ix_list (pv 2) pe_int (fun _ _ => rfl)) pa_nil))))) pss_nil)
        (pss_one (ps_ret (pe_call G_send (hr.mono (by decide)) (by rfl) g_send k_send b_send .nil pass0 (pa_cons (pv 0) (pa_cons (pe_ix ix_list (pv 2) pe_int (fun _ _ => rfl)) (pa_cons (pv 3) pa_nil))))))))))), ?_⟩
    cases hx with
    | init => exact absurd rfl w0
    | size => exact absurd rfl w1
    | line u v =>
      refine ⟨_, rfl, rfl, _, rfl, ?_⟩
      refine if_true_of (decide_eq_true rfl) ?_
      exact ⟨_, rfl, _, rfl, nu, _, _, _, rfl, rfl, SqL.of hnu, atI_nat (j := 0) rfl, _, rfl, nu, _, _, _, rfl, rfl, SqL.of hnu, atI_nat (j := 1) rfl, a, s, c, L, as, ds, u, v, rfl, N, hc, k⟩
    | mix e d j =>
      refine ⟨_, rfl, rfl, _, rfl, ?_⟩
      refine if_false_of (int_ne (by decide)) ?_
      refine ⟨_, rfl, rfl, _, rfl, ?_⟩
      refine if_true_of (decide_eq_true rfl) ?_
      exact ⟨_, rfl, _, rfl, nu, _, _, _, rfl, rfl, SqL.of hnu, atI_nat (j := 0) rfl, _, rfl, nu, _, _, _, rfl, rfl, SqL.of hnu, atI_nat (j := 1) rfl, _, rfl, nu, _, _, _, rfl, rfl, SqL.of hnu, atI_nat (j := 2) rfl, a, s, c, L, as, ds, e, d, j, rfl, N, hc, k⟩
    | vector e m =>
      refine ⟨_, rfl, rfl, _, rfl, ?_⟩
      refine if_false_of (int_ne (by decide)) ?_
      refine ⟨_, rfl, rfl, _, rfl, ?_⟩
      refine if_false_of (int_ne (by decide)) ?_
      refine ⟨_, rfl, rfl, _, rfl, ?_⟩
      refine if_true_of (decide_eq_true rfl) ?_
      exact ⟨_, rfl, _, rfl, nu, _, _, _, rfl, rfl, SqL.of hnu, atI_nat (j := 0) rfl, _, rfl, nu, _, _, _, rfl, rfl, SqL.of hnu, atI_nat (j := 1) rfl, a, s, c, L, as, ds, e, m, rfl, N, gives_of_does fst_vector N k⟩
    | rank t =>
      refine ⟨_, rfl, rfl, _, rfl, ?_⟩
      refine if_false_of (int_ne (by decide)) ?_
      refine ⟨_, rfl, rfl, _, rfl, ?_⟩
      refine if_false_of (int_ne (by decide)) ?_
      refine ⟨_, rfl, rfl, _, rfl, ?_⟩
      refine if_false_of (int_ne (by decide)) ?_
      refine ⟨_, rfl, rfl, _, rfl, ?_⟩
      refine if_true_of (decide_eq_true rfl) ?_
      exact ⟨_, rfl, _, rfl, nu, _, _, _, rfl, rfl, SqL.of hnu, atI_nat (j := 0) rfl, a, s, c, L, as, ds, t, rfl, N, gives_of_does fst_rank N k⟩
    | cut t =>
      refine ⟨_, rfl, rfl, _, rfl, ?_⟩
      refine if_false_of (int_ne (by decide)) ?_
      refine ⟨_, rfl, rfl, _, rfl, ?_⟩
      refine if_false_of (int_ne (by decide)) ?_
      refine ⟨_, rfl, rfl, _, rfl, ?_⟩
      refine if_false_of (int_ne (by decide)) ?_
      refine ⟨_, rfl, rfl, _, rfl, ?_⟩
      refine if_false_of (int_ne (by decide)) ?_
      refine ⟨_, rfl, rfl, _, rfl, ?_⟩
      refine if_true_of (decide_eq_true rfl) ?_
      exact ⟨_, rfl, _, rfl, nu, _, _, _, rfl, rfl, SqL.of hnu, atI_nat (j := 0) rfl, a, s, c, L, as, ds, t, rfl, N, gives_of_does fst_cut N k⟩
    | send e row h255 h8 =>
      refine ⟨_, rfl, rfl, _, rfl, ?_⟩
      refine if_false_of (int_ne (by decide)) ?_
      refine ⟨_, rfl, rfl, _, rfl, ?_⟩
      refine if_false_of (int_ne (by decide)) ?_
      refine ⟨_, rfl, rfl, _, rfl, ?_⟩
      refine if_false_of (int_ne (by decide)) ?_
      refine ⟨_, rfl, rfl, _, rfl, ?_⟩
      refine if_false_of (int_ne (by decide)) ?_
      refine ⟨_, rfl, rfl, _, rfl, ?_⟩
      refine if_false_of (int_ne (by decide)) ?_
      exact ⟨_, rfl, _, rfl, nu, _, _, _, rfl, rfl, SqL.of hnu, atI_nat (j := 0) rfl, _, rfl, a, s, c, L, as, ds, e, ro, row, rfl, N, hro, h255, h8, gives_of_does fst_send N k⟩
theorem netAt_fresh {H : Hp} {a dx L : Addr} {n p h c : Nat} (hn : H a = some (.ins cN dx (netF n p h L))) (hL : H L = some (.lst [])) (g : Good { net := ⟨n, []⟩, p := p, h := h, mix := [] }) : NetAt cL cN H a { net := ⟨n, []⟩, p := p, h := h, mix := [] } c L [] [] :=
  ⟨⟨dx, hn⟩, hL, rfl, rfl, fun e x d h => by simp at h, fun e d h => by simp at h, List.nodup_nil, g⟩
theorem ok_Desk {f : Addr} {fd : FuncData} (F : Fun K "__init__" "Desk.__init__" s_Desk__init_ f fd) (T : Txt K mg cL cN cD) (D_Net : CDef P w K mg base cN "Net" 1 ["self", "nodes", "p", "messages"] (sp_Net cN)) : FnOk P w K mg base CX0 3 f fd ["self"] (sp_Desk cL cN cD) := by
  obtain ⟨f_Net, d_Net, g_Net, M_Net, b_Net, G_Net⟩ := D_Net.ex
  refine F.ok sc_Desk__init_ (fun vs H Q E h => ?_) (fun cdv A outer s H vs Q E hr h => ?_)
  · obtain ⟨x, dx, rfl, _⟩ := h
    rfl
  · obtain ⟨x, dx, rfl, hx, k⟩ := h
    refine ⟨_, (pss_one (ps_fld (pv 0) (pe_make M_Net G_Net (hr.mono (by decide)) (by rfl) g_Net b_Net .nil pass0 (pa_cons pe_int (pa_cons pe_int (pa_cons pe_int pa_nil)))) rfl)), ?_⟩
    intro y dy hy hdy hne
    refine ⟨y, dy, 1, 2, 1, rfl, upd_same, fun H1 L kp hL hL1 hy1 => ⟨rfl, ?_⟩⟩
    have S1 : Same H H1 := Same.made hy hdy kp
    have hx1 := S1 _ _ hx
    refine ⟨_, rfl, x, cD, dx, _, rfl, hx1, T.clD, T.nNet, (by show 0 < 1000; decide), ?_⟩
    have nyL : L ≠ y := fun z => by rw [z, upd_same] at hL; cases hL
    have hL0 : H L = none := by
      have ndy : L ≠ dy := fun z => by rw [z, upd_ne hne, upd_same] at hL; cases hL
      rw [upd_ne nyL, upd_ne ndy] at hL
      exact hL
    have nxy : y ≠ x := (ne_of_none hx hy).symm
    have nxL : L ≠ x := (ne_of_none hx hL0).symm
    refine k _ y L (fun b o e hb => ?_) hL0 hy ?_ (netAt_fresh (dx := dy) (L := L) ?_ ?_ good_start)
    · rw [upd_ne hb]
      exact S1 _ _ e
    · rw [upd_same]
      rfl
    · rw [upd_ne nxy]
      exact hy1
    · rw [upd_ne nxL]
      exact hL1
theorem isSize_iff {n p h : Int} : isSize n p h = true ↔ (1 ≤ n ∧ n ≤ 16 ∧ 2 ≤ p ∧ p ≤ 251 ∧ Rd03.prime p.toNat = true ∧ 1 ≤ h ∧ h ≤ 8) := by
  unfold isSize
  simp only [Bool.and_eq_true, decide_eq_true_eq]
  constructor
  · rintro ⟨⟨a, b⟩, ⟨⟨c, d⟩, e⟩, f, g⟩
    exact ⟨a, b, c, d, e, f, g⟩
  · rintro ⟨a, b, c, d, e, f, g⟩
    exact ⟨⟨a, b⟩, ⟨⟨c, d⟩, e⟩, f, g⟩
theorem size_ref {s : Abs} {n p h : Int} (q : isSize n p h = false) : Rd03.does s (.size n p h) = (s, Rd03.refused) := if_neg fun z => by
  rw [isSize_iff.mpr z] at q
  cases q
theorem size_put {s : Abs} {n p h : Int} (q : isSize n p h = true) : Rd03.does s (.size n p h) = ({ net := ⟨n.toNat, []⟩, p := p.toNat, h := h.toNat, mix := [] }, { value := 0 }) := if_pos (isSize_iff.mp q)
theorem ok_done {f : Addr} {fd : FuncData} (F : Fun K "done" "Desk.done" s_Desk_done f fd) (T : Txt K mg cL cN cD) (D_Net : CDef P w K mg base cN "Net" 1 ["self", "nodes", "p", "messages"] (sp_Net cN)) (D1 : Def P w K mg base "answered" 7 ["net", "word", "numbers", "row"] (sp_answered cL cN))
    (D2 : Def P w K mg base "is_size" 2 ["n", "p", "h"] sp_is_size) : FnOk P w K mg base CX0 8 f fd ["self", "word", "numbers", "row"] (sp_done cL cN cD) := by
  obtain ⟨f_Net, d_Net, g_Net, M_Net, b_Net, G_Net⟩ := D_Net.ex
  obtain ⟨f_answered, d_answered, g_answered, k_answered, b_answered, G_answered⟩ := D1.ex
  obtain ⟨f_is_size, d_is_size, g_is_size, k_is_size, b_is_size, G_is_size⟩ := D2.ex
  refine F.ok sc_Desk_done (fun vs H Q E h => ?_) (fun cdv A outer s H vs Q E hr h => ?_)
  · obtain ⟨dk, dx, a, s, c, L, as, ds, w, nu, ro, nums, row, x, rfl, _⟩ := h
    rfl
  · obtain ⟨dk, dx, a, s, c, L, as, ds, w, nu, ro, nums, row, x, rfl, hdk, nda, N, hc, hnu, hro, hx, k⟩ := h
    refine ⟨_, (pss_cons (ps_if (pt_cmpR op_eq (pv 1) (pe_gint T.cBEGIN rfl) (nomark _)) (pss_cons (ps_fld (pv 0) (pe_make M_Net G_Net (hr.mono (by decide)) (by rfl) g_Net b_Net .nil pass0 (pa_cons pe_int (pa_cons pe_int (pa_cons pe_int pa_nil)))) rfl)
        (pss_one (ps_ret (pe_lst (pa_cons (pe_gint T.cDONE rfl) pa_nil))))) pss_nil)
        (pss_cons (ps_if (pt_cmpR op_eq (pv 1) (pe_gint T.cSIZE rfl) (nomark _)) (pss_cons (ps_if (pt_not (pt_val (pe_call G_is_size (hr.mono (by decide)) (by rfl) g_is_size k_is_size b_is_size .nil pass0 (pa_cons (pe_ix ix_list (pv 2) pe_int (fun _ _ => rfl)) (pa_cons (pe_ix ix_list (pv 2) pe_int (fun _ _ => rfl)) (pa_cons (pe_ix ix_list (pv 2) pe_int (fun _ _ => rfl)) pa_nil)))))) (pss_one (ps_ret (pe_lst (pa_cons (pe_gint T.cREFUSED rfl) pa_nil)))) pss_nil)
        (pss_cons (ps_fld (pv 0) (pe_make M_Net G_Net (hr.mono (by decide)) (by rfl) g_Net b_Net .nil pass0 (pa_cons (pe_ix ix_list (pv 2) pe_int (fun _ _ => rfl)) (pa_cons (pe_ix ix_list (pv 2) pe_int (fun _ _ => rfl)) (pa_cons (pe_ix ix_list (pv 2) pe_int (fun _ _ => rfl)) pa_nil)))) rfl)
        (pss_one (ps_ret (pe_lst (pa_cons (pe_gint T.cDONE rfl) pa_nil)))))) pss_nil)
        (pss_one (ps_ret (pe_call G_answered (hr.mono (by decide)) (by rfl) g_answered k_answered b_answered .nil pass0 (pa_cons (pe_fld (pv 0) rfl) (pa_cons (pv 1) (pa_cons (pv 2) (pa_cons (pv 3) pa_nil))))))))), ?_⟩
    have hlen : (deskF a).length < 1000 := by show 1 < 1000; decide
    -- a new net in the old one's place
    have fresh : ∀ {H0 H1 : Hp} {y dy L' p : Addr} {n p' h : Nat}, Same H H0 → H0 y = none → H0 dy = none → dy ≠ y → (∀ b o, (upd (upd H0 dy (.own y)) y (.ins cN dy [])) b = some o → b ≠ y → H1 b = some o) → (upd (upd H0 dy (.own y)) y (.ins cN dy [])) L' = none → H1 L' = some (.lst []) →
        H1 y = some (.ins cN dy (netF n p' h L')) → Good { net := ⟨n, []⟩, p := p', h := h, mix := [] } → Rd03.does s x = ({ net := ⟨n, []⟩, p := p', h := h, mix := [] }, { value := 0 }) →
        (upd H1 dk (.ins cD dx (putF "net" (.ref y) (deskF a)))) p = none → Q (.ref p) (upd (upd H1 dk (.ins cD dx (putF "net" (.ref y) (deskF a)))) p (.lst [.int 0])) := by
      intro H0 H1 y dy L' p n p' h S0 hy hdy hne kp hL hL1 hy1 g hd hp
      have S1 : Same H H1 := S0.trans (Same.made hy hdy kp)
      have nyL : L' ≠ y := fun z => by rw [z, upd_same] at hL; cases hL
      have hL0 : H0 L' = none := by
        have ndy : L' ≠ dy := fun z => by rw [z, upd_ne hne, upd_same] at hL; cases hL
        rw [upd_ne nyL, upd_ne ndy] at hL
        exact hL
      have npd : p ≠ dk := fun z => by rw [z, upd_same] at hp; cases hp
      have hp0 : H p = none := by
        rw [upd_ne npd] at hp
        exact S1.free hp
      have nyd : y ≠ dk := (ne_of_none (S0 _ _ hdk) hy).symm
      have nLd : L' ≠ dk := (ne_of_none (S0 _ _ hdk) hL0).symm
      have kq : ∀ {b : Addr} {o : HO}, upd H1 dk (.ins cD dx (putF "net" (.ref y) (deskF a))) b = some o → upd (upd H1 dk (.ins cD dx (putF "net" (.ref y) (deskF a)))) p (.lst [.int 0]) b = some o := fun hb => same_upd hp _ _ hb
      rw [hd] at k
      refine k _ p y L' [] [] hp0 upd_same (kq (by rw [upd_same, deskF_put])) (netAt_fresh (dx := dy) (L := L') (kq (by rw [upd_ne nyd]; exact hy1)) (kq (by rw [upd_ne nLd]; exact hL1)) g) (.inr (S0.free hL0)) (fun b hb => by simp at hb) (fun b o e h1 h2 h3 => kq (by rw [upd_ne h1]; exact S1 _ _ e)) nyd.symm
    have rest : w ≠ 0 → w ≠ 1 → Does cL cN H Q a s c L ds x := fun w0 w1 H' q as' ds' hq hl N' hb fr => by
      have ndL : dk ≠ L := ne_of hdk N.lines (by intro z; cases z)
      have nds : dk ∉ ds := fun hm => by
        obtain ⟨i, hi, e⟩ := List.mem_iff_getElem.mp hm
        obtain ⟨kvs, g1, _⟩ := N.dict i dk (by rw [List.getElem?_eq_getElem hi, e])
        rw [hdk] at g1
        cases g1
      exact k H' q a L as' ds' hq hl (fr _ _ hdk ndL nds) N' (.inl rfl) hb (fun b o e _ h2 h3 => fr b o e h2 h3) nda
    have go : ∀ (h0 : w ≠ 0) (h1 : w ≠ 1), _ := fun h0 h1 => (⟨a, s, c, L, as, ds, w, nu, ro, nums, row, x, rfl, N, hc, hnu, hro, hx, h0, h1, rest h0 h1⟩ : sp_answered cL cN [.ref a, .int (w : Int), .ref nu, .ref ro] H Q E0)
    by_cases w0 : w = 0
    · subst w0
      refine ⟨_, rfl, rfl, _, rfl, ?_⟩
      refine if_true_of (decide_eq_true rfl) ?_
      intro y dy hy hdy hne
      refine ⟨y, dy, 1, 2, 1, rfl, upd_same, fun H1 L' kp hL hL1 hy1 => ⟨rfl, ?_⟩⟩
      have S1 : Same H H1 := Same.made hy hdy kp
      refine ⟨_, rfl, dk, cD, dx, _, rfl, S1 _ _ hdk, T.clD, T.nNet, hlen, ?_⟩
      refine ⟨by show 1 ≤ sizeLine; decide, fun p hp => ?_⟩
      cases hx
      exact fresh (Same.refl _) hy hdy hne kp hL hL1 hy1 good_start rfl hp
    · refine ⟨_, rfl, rfl, _, rfl, ?_⟩
      refine if_false_of (int_ne (by omega)) ?_
      refine ⟨_, rfl, rfl, _, rfl, ?_⟩
      by_cases w1 : w = 1
      · subst w1
        refine if_true_of (decide_eq_true rfl) ?_
        cases hx with
        | size n p h =>
          refine ⟨_, rfl, nu, _, _, _, rfl, rfl, SqL.of hnu, atI_nat (j := 0) rfl, _, rfl, nu, _, _, _, rfl, rfl, SqL.of hnu, atI_nat (j := 1) rfl, _, rfl, nu, _, _, _, rfl, rfl, SqL.of hnu, atI_nat (j := 2) rfl, n, p, h, rfl, fun H1 S1 => ⟨_, rfl, ?_⟩⟩
          cases hz : isSize n p h with
          | false =>
            refine if_true_of rfl ?_
            refine ⟨by show 1 ≤ sizeLine; decide, fun q hq => ?_⟩
            rw [size_ref hz] at k
            have S2 := S1.trans (same_upd hq (o := .lst [.int (-1)]))
            exact k _ q a L as ds (S1.free hq) upd_same (S2 _ _ hdk) ((N.same S2).mono (Nat.le_succ c)) (.inl rfl) (fun b hb => .inl hb) (fun b o e _ _ _ => S2 _ _ e) nda
          | true =>
            refine if_false_of rfl ?_
            obtain ⟨z1, z2, z3, z4, z5, z6, z7⟩ := isSize_iff.mp hz
            have hnu1 := S1 _ _ hnu
            refine ⟨_, rfl, nu, _, _, _, rfl, rfl, SqL.of hnu1, atI_nat (j := 0) rfl, _, rfl, nu, _, _, _, rfl, rfl, SqL.of hnu1, atI_nat (j := 1) rfl, _, rfl, nu, _, _, _, rfl, rfl, SqL.of hnu1, atI_nat (j := 2) rfl, ?_⟩
            intro y dy hy hdy hne
            have e1 : n = ((n.toNat : Nat) : Int) := by omega
            have e2 : p = ((p.toNat : Nat) : Int) := by omega
            have e3 : h = ((h.toNat : Nat) : Int) := by omega
            refine ⟨y, dy, n.toNat, p.toNat, h.toNat, ?_, upd_same, fun H2 L' kp hL hL1 hy1 => ⟨rfl, ?_⟩⟩
            · show [V.ref y, V.int n, V.int p, V.int h] = _
              rw [← e1, ← e2, ← e3]
            have S2 : Same H H2 := S1.trans (Same.made hy hdy kp)
            refine ⟨_, rfl, dk, cD, dx, _, rfl, S2 _ _ hdk, T.clD, T.nNet, hlen, ?_⟩
            refine ⟨by show 1 ≤ sizeLine; decide, fun q hq => ?_⟩
            exact fresh S1 hy hdy hne kp hL hL1 hy1 (good_fresh (by omega) (by omega) z5 (by omega) (by omega) (by omega)) (size_put hz) hq
      · refine if_false_of (int_ne (by omega)) ?_
        exact ⟨_, rfl, dk, cD, dx, _, _, rfl, hdk, T.clD, T.nNet, deskF_net, _, rfl, _, rfl, _, rfl, go w0 w1⟩
end
end NM
namespace NM
set_option maxRecDepth 100000
set_option maxHeartbeats 4000000
open PySem L2
open Rd03 (Net Abs tail head many into entry vec)
section
variable {P : Program} {w : World} {K : PySem.W.Frag} {mg : Str → Option Value} {base : Heap} {cL cN cD : Addr}
theorem cutV_nat {l : List Int} {i j : Nat} (hij : i ≤ j) (hj : j ≤ l.length) : cutV (l.map V.int) (some (i : Int)) (some (j : Int)) = ((l.drop i).take (j - i)).map V.int := by
  unfold cutV
  rw [HT.sIx_nat, HT.sIx_nat, List.length_map, Nat.min_eq_left hj, Nat.min_eq_left (by omega), List.map_take, List.map_drop]
theorem num_at {w : Nat} (h : w < 8) : (iN [0, 3, 2, 3, 2, 1, 1, 1])[w]? = some (.int (numsLen w : Int)) := by
  match w, h with
  | 0, _ => rfl
  | 1, _ => rfl
  | 2, _ => rfl
  | 3, _ => rfl
  | 4, _ => rfl
  | 5, _ => rfl
  | 6, _ => rfl
  | 7, _ => rfl
theorem ok_call_at {f : Addr} {fd : FuncData} (F : Fun K "call_at" "call_at" s_call_at f fd) (T : Txt K mg cL cN cD) : FnOk P w K mg base CX0 1 f fd ["calls", "at"] (sp_call_at K) := by
  obtain ⟨aN, gNum, hNum⟩ := T.num
  refine F.ok sc_call_at (fun vs H Q E h => ?_) (fun cdv A outer s H vs Q E hr h => ?_)
  · obtain ⟨ca, l, i, w, nums, row, j, rfl, _⟩ := h
    rfl
  · obtain ⟨ca, l, i, w, nums, row, j, rfl, hca, C, q⟩ := h
    have hw := C.word
    have hmost := C.most
    refine ⟨_, (pss_cons (ps_set (i := 2) sc_call_at.nd rfl (Or.inl rfl) (pe_op op_add (pe_op op_add (pv 1) pe_int) (pe_ix ix_tup (pe_glob (v := .ref aN) rfl gNum rfl) (pe_ix ix_list (pv 0) (pv 1) (fun _ _ => rfl)) (fun _ _ => rfl))))
        (pss_cons (ps_set (i := 3) sc_call_at.nd rfl (Or.inl rfl) (pe_slice sl_list (pv 0) (po_some (pe_op op_add (pv 1) pe_int)) (po_some (pv 2))))
        (pss_cons (ps_set (i := 4) sc_call_at.nd rfl (Or.inl rfl) (pe_lst pa_nil))
        (pss_cons (ps_if (pt_cmpR op_eq (pe_ix ix_list (pv 0) (pv 1) (fun _ _ => rfl)) (pe_gint T.cSEND rfl) (nomark _)) (pss_cons (ps_set (i := 5) sc_call_at.nd rfl (Or.inl rfl) (pe_op op_add (pv 2) pe_int))
        (pss_cons (ps_set (i := 2) sc_call_at.nd rfl (Or.inl rfl) (pe_op op_add (pv 5) (pe_ix ix_list (pv 0) (pv 2) (fun _ _ => rfl))))
        (pss_one (ps_set (i := 4) sc_call_at.nd rfl (Or.inl rfl) (pe_slice sl_list (pv 0) (po_some (pv 5)) (po_some (pv 2))))))) pss_nil)
        (pss_one (ps_ret (pe_tup (pa_cons (pv 3) (pa_cons (pv 4) (pa_cons (pv 2) pa_nil)))))))))), ?_⟩
    -- behind = at + 1 + NUMBERS[calls[at]]
    refine ⟨_, rfl, _, _, rfl, rfl, _, rfl, _, rfl, ca, _, _, _, rfl, rfl, hca, atI_nat (map_at hw), aN, _, _, _, rfl, rfl, hNum _, atI_nat (num_at C.w8), _, _, rfl, rfl, ?_⟩
    have e1 : (i : Int) + 1 + (numsLen w : Int) = ((i + 1 + numsLen w : Nat) : Int) := by omega
    have e2 : (i : Int) + 1 = ((i + 1 : Nat) : Int) := by omega
    dsimp only
    rw [e1]
    -- numbers = calls[at + 1:behind]
    refine ⟨_, rfl, _, rfl, _, _, rfl, rfl, _, rfl, _, rfl, _, rfl, ca, _, rfl, hca, fun nu hnu => ?_⟩
    dsimp only
    rw [e2, cutV_nat (by omega) hmost, show i + 1 + numsLen w - (i + 1) = numsLen w by omega, ← C.nums]
    have S1 : Same H (upd H nu (.lst (nums.map V.int))) := same_upd hnu
    -- row = []
    refine ⟨Nat.zero_le _, fun r0 hr0 => ?_⟩
    have S2 : Same (upd H nu (.lst (nums.map V.int))) (upd (upd H nu (.lst (nums.map V.int))) r0 (.lst [])) := same_upd hr0
    have S12 := S1.trans S2
    have hnu2 := S2 _ _ (upd_same (H := H) (a := nu) (o := .lst (nums.map V.int)))
    have hr2 : upd (upd H nu (.lst (nums.map V.int))) r0 (.lst []) r0 = some (.lst []) := upd_same
    generalize upd (upd H nu (.lst (nums.map V.int))) r0 (.lst []) = H2 at S2 S12 hnu2 hr2
    have hca2 := S12.seq hca
    refine ⟨_, rfl, _, rfl, ca, _, _, _, rfl, rfl, hca2, atI_nat (map_at hw), rfl, _, rfl, ?_⟩
    by_cases h7 : w = 7
    · obtain ⟨m, hm, hrow, hj, hjl⟩ := C.yes h7
      subst h7
      refine if_true_of (decide_eq_true rfl) ?_
      have n7 : numsLen 7 = 1 := rfl
      rw [n7] at *
      -- begin = behind + 1
      refine ⟨_, rfl, _, _, rfl, rfl, ?_⟩
      have e3 : ((i + 1 + 1 : Nat) : Int) + 1 = ((i + 3 : Nat) : Int) := by omega
      dsimp only
      rw [e3]
      -- behind = begin + calls[behind]
      refine ⟨_, rfl, _, rfl, _, rfl, ca, _, _, _, rfl, rfl, hca2, atI_nat (j := i + 1 + 1) (map_at hm), _, _, rfl, rfl, ?_⟩
      have e4 : ((i + 3 : Nat) : Int) + (m : Int) = ((i + 3 + m : Nat) : Int) := by omega
      dsimp only
      rw [e4]
      -- row = calls[begin:behind]
      refine ⟨_, rfl, _, rfl, _, rfl, _, rfl, _, rfl, ca, _, rfl, hca2, fun ro hro => ?_⟩
      dsimp only
      rw [cutV_nat (by omega) (by omega), show i + 3 + m - (i + 3) = m by omega, ← hrow]
      have S3 : Same H2 (upd H2 ro (.lst (row.map V.int))) := same_upd hro
      refine ⟨_, rfl, _, rfl, _, rfl, by show 3 ≤ sizeLine; decide, fun t ht => ?_⟩
      have S4 : Same (upd H2 ro (.lst (row.map V.int))) (upd (upd H2 ro (.lst (row.map V.int))) t (.tup [.ref nu, .ref ro, .int ((i + 3 + m : Nat) : Int)])) := same_upd ht
      refine q _ t nu ro (S12.trans (S3.trans S4)) hnu (S12.free hro) ?_ (S4 _ _ (S3 _ _ hnu2)) (S4 _ _ upd_same)
      rw [upd_same, hj]
    · obtain ⟨hrow, hj⟩ := C.no h7
      subst hrow
      refine if_false_of (int_ne (by omega)) ?_
      refine ⟨_, rfl, _, rfl, _, rfl, by show 3 ≤ sizeLine; decide, fun t ht => ?_⟩
      have S4 : Same H2 (upd H2 t (.tup [.ref nu, .ref r0, .int ((i + 1 + numsLen w : Nat) : Int)])) := same_upd ht
      refine q _ t nu r0 (S12.trans S4) hnu (S1.free hr0) ?_ (S4 _ _ hnu2) (S4 _ _ hr2)
      rw [upd_same, hj]
theorem NetAt.frame {H : Hp} {a : Addr} {s : Abs} {c : Nat} {L Fa : Addr} {as ds : List Addr} {l : List V} {o : HO} (N : NetAt cL cN H a s c L as ds) (hF : H Fa = some (.lst l)) (hFL : Fa ≠ L) : NetAt cL cN (upd H Fa o) a s c L as ds := by
  have k : ∀ {b : Addr} {u : HO}, H b = some u → (∀ l, u ≠ .lst l) → upd H Fa o b = some u := fun hb ho => by
    rw [upd_ne (ne_of hb hF (ho _))]
    exact hb
  refine ⟨?_, ?_, N.alen, N.dlen, ?_, ?_, N.nd, N.good⟩
  · obtain ⟨dn, h⟩ := N.net
    exact ⟨dn, k h fun l z => by cases z⟩
  · rw [upd_ne hFL.symm]
    exact N.lines
  · intro e x d hx hd
    obtain ⟨dn, h⟩ := N.line e x d hx hd
    exact ⟨dn, k h fun l z => by cases z⟩
  · intro e d hd
    obtain ⟨kvs, g1, g2, g3⟩ := N.dict e d hd
    exact ⟨kvs, k g1 (fun l z => by cases z), g2, g3⟩
theorem told_cons (a : List Int) (l : List (List Int)) : PyFlat.told (a :: l) = ((a.length : Int) :: a) ++ PyFlat.told l := by
  unfold PyFlat.told
  rw [List.flatMap_cons]
theorem ok_answers {f : Addr} {fd : FuncData} (F : Fun K "answers" "answers" s_answers f fd) (T : Txt K mg cL cN cD) (D_Desk : CDef P w K mg base cD "Desk" 3 ["self"] (sp_Desk cL cN cD)) (D_done : MDef P w K mg base cD "done" 8 ["self", "word", "numbers", "row"] (sp_done cL cN cD))
    (D_call_at : Def P w K mg base "call_at" 1 ["calls", "at"] (sp_call_at K)) : FnOk P w K mg base CX0 9 f fd ["calls"] (sp_answers K) := by
  obtain ⟨f_Desk, d_Desk, g_Desk, M_Desk, b_Desk, G_Desk⟩ := D_Desk.ex
  obtain ⟨f_done, d_done, m_done, b_done, G_done⟩ := D_done.ex
  obtain ⟨f_call_at, d_call_at, g_call_at, k_call_at, b_call_at, G_call_at⟩ := D_call_at.ex
  refine F.ok sc_answers (fun vs H Q E h => ?_) (fun cdv A outer s H vs Q E hr h => ?_)
  · obtain ⟨ca, l, rfl, _⟩ := h
    rfl
  · obtain ⟨ca, l, rfl, hca, hlen, hask, q⟩ := h
    -- what is asked
    obtain ⟨raw, hraw, h300, hin, hshort⟩ : ∃ raw, PyFlat.calls PyRd03.shape l.length l = some raw ∧ raw.length ≤ 300 ∧ PyInside.calls PyRd03.bound raw = true ∧ (PyRd03.answers l).length ≤ 10000000 := by
      unfold PyRd03.answers_asked at hask
      cases hc : PyFlat.calls PyRd03.shape l.length l with
      | none =>
        rw [hc] at hask
        cases hask
      | some raw =>
        rw [hc] at hask
        simp only [Bool.and_eq_true] at hask
        obtain ⟨⟨⟨h1, h2⟩, h3⟩, h4⟩ := hask
        exact ⟨raw, rfl, of_decide_eq_true h1, h2, of_decide_eq_true h4⟩
    have hans : PyRd03.answers l = PyFlat.told (PyFlat.played Rd03Neutral.step {} (raw.map PyRd03.whole)) := by
      unfold PyRd03.answers PyRd03.calls
      rw [hraw]
      rfl
    refine ⟨_, (pss_cons (ps_set (i := 1) sc_answers.nd rfl (Or.inl rfl) (pe_make0 M_Desk G_Desk (hr.mono (by decide)) (by rfl) g_Desk b_Desk .nil pass0))
        (pss_cons (ps_set (i := 2) sc_answers.nd rfl (Or.inl rfl) (pe_lst pa_nil))
        (pss_cons (ps_set (i := 3) sc_answers.nd rfl (Or.inl rfl) pe_int)
        (pss_cons (ps_while PassesOwn.never (pt_cmpR op_lt (pv 3) (pe_callB call_len_seq (by rfl) T.len PySem.boot_len (pa_cons (pv 0) pa_nil)) (nomark _)) (pss_cons (ps_asg (pe_call G_call_at (hr.mono (by decide)) (by rfl) g_call_at k_call_at b_call_at .nil pass0 (pa_cons (pv 0) (pa_cons (pv 3) pa_nil))) (pg_tup (by rfl) (pgs_cons (pg_name (i := 5) sc_answers.nd rfl (Or.inl rfl)) (pgs_cons (pg_name (i := 6) sc_answers.nd rfl (Or.inl rfl)) (pgs_cons (pg_name (i := 7) sc_answers.nd rfl (Or.inl rfl)) pgs_nil)))))
        (pss_cons (ps_set (i := 4) sc_answers.nd rfl (Or.inl rfl) (pe_meth (pv 1) T.clD m_done G_done (hr.mono (by decide)) b_done .nil pass0 (pa_cons (pe_ix ix_list (pv 0) (pv 3) (fun _ _ => rfl)) (pa_cons (pv 5) (pa_cons (pv 6) pa_nil)))))
        (pss_cons (ps_expr (pe_bm PySem.F.plainAttrs_list PySem.F.slot_list_append PySem.F.type_list_append mt_append (pv 2) (pa_cons (pe_callB call_len_seq (by rfl) T.len PySem.boot_len (pa_cons (pv 4) pa_nil)) pa_nil)))
        (pss_cons (ps_expr (pe_bm PySem.F.plainAttrs_list PySem.F.slot_list_extend PySem.F.type_list_extend mt_extend (pv 2) (pa_cons (pv 4) pa_nil)))
        (pss_one (ps_set (i := 3) sc_answers.nd rfl (Or.inl rfl) (pv 7))))))))
        (pss_one (ps_ret (pv 2))))))), ?_⟩
    -- desk = Desk()
    intro x dx hx hdx hne
    refine ⟨x, dx, rfl, upd_same, fun H1 a L kp hL ha hx1 N => ⟨rfl, ?_⟩⟩
    have S1 : Same H H1 := Same.made hx hdx kp
    have nax : x ≠ a := fun z => by rw [← z, upd_same] at ha; cases ha
    have hL0 : H L = none := by
      have nx : L ≠ x := fun z => by rw [z, upd_same] at hL; cases hL
      have nd : L ≠ dx := fun z => by rw [z, upd_ne hne, upd_same] at hL; cases hL
      rw [upd_ne nx, upd_ne nd] at hL
      exact hL
    -- found = []
    refine ⟨Nat.zero_le _, fun Fa hF => ?_⟩
    have S2 : Same H1 (upd H1 Fa (.lst [])) := same_upd hF
    have hF0 : H Fa = none := S1.free hF
    have nFL : Fa ≠ L := (ne_of_none N.lines hF).symm
    refine while_m (fun m σ H' => ∃ (i : Nat) (out : List Int) (s : Abs) (c : Nat) (a L : Addr) (as ds : List Addr) (rest : List (List (List Int))) (f : Nat) (v4 v5 v6 v7 : Option V), σ = [some (.ref ca), some (.ref x), some (.ref Fa), some (.int (i : Int)), v4, v5, v6, v7] ∧ Same H H' ∧ H L = none ∧ (∀ b ∈ ds, H b = none) ∧ Fa ≠ L ∧
        H' x = some (.ins cD dx (deskF a)) ∧ x ≠ a ∧ H' Fa = some (.lst (out.map V.int)) ∧ NetAt cL cN H' a s c L as ds ∧ PyFlat.calls PyRd03.shape f (l.drop i) = some rest ∧ i ≤ l.length ∧ c + rest.length ≤ 300 ∧ PyInside.calls PyRd03.bound rest = true ∧
        out ++ PyFlat.told (PyFlat.played Rd03Neutral.step s (rest.map PyRd03.whole)) = PyRd03.answers l ∧ m = l.length - i)
      l.length ?_ ?_
    · refine ⟨0, [], {}, 0, a, L, [], [], raw, l.length, none, none, none, none, rfl, S1.trans S2, hL0, fun b hb => by simp at hb, nFL, S2 _ _ hx1, nax, upd_same, N.same S2, hraw, Nat.zero_le _, by omega, hin, ?_, rfl⟩
      rw [hans]
      rfl
    · rintro m σ H2 ⟨i, out, s, c, a, L, as, ds, rest, f, v4, v5, v6, v7, rfl, S, hL, hds, nFL, hxd, nxa, hFl, N, hcalls, hil, hc, hins, hout, rfl⟩
      have hca2 := S.seq hca
      have olen : out.length ≤ 10000000 := by
        rw [← hout, List.length_append] at hshort
        omega
      -- while at < len(calls)
      refine ⟨_, rfl, _, rfl, ca, _, rfl, .inl hca2, _, _, rfl, rfl, _, rfl, ?_⟩
      rw [List.length_map]
      by_cases hlt : i < l.length
      · refine if_true_of (decide_eq_true (by omega)) ?_
        refine ⟨_, fun _ _ h => h, ?_⟩
        obtain ⟨w, nums, row, j, f', rest', C, hij, hjl, hc', hrest⟩ := calls_at hcalls hlt
        subst hrest
        have hins' : (PyInside.call PyRd03.bound (rawOf w nums row) && rest'.all (PyInside.call PyRd03.bound)) = true := hins
        rw [Bool.and_eq_true] at hins'
        obtain ⟨xc, hci, hco⟩ := call_is C hins'.1
        rw [List.length_cons] at hc
        -- numbers, row, behind = call_at(calls, at)
        refine ⟨_, rfl, _, rfl, ca, l, i, w, nums, row, j, rfl, hca2, C, fun H3 t nu ro S3 hnu hro ht hnul hrol => ?_⟩
        refine ⟨t, _, rfl, SqT.of ht, rfl, _, _, rfl, _, _, rfl, _, _, rfl, rfl, ?_⟩
        have SS3 := S.trans S3
        have hF3 := S3 _ _ hFl
        -- told = desk.done(calls[at], numbers, row)
        refine ⟨_, rfl, x, dx, _, rfl, S3 _ _ hxd, deskF_done, _, rfl, _, rfl, ca, _, _, _, rfl, rfl, SS3.seq hca, atI_nat (map_at C.word), _, rfl, _, rfl, x, dx, a, s, c, L, as, ds, w, nu, ro, nums, row, xc, rfl, S3 _ _ hxd, nxa, N.same S3, by omega, hnul, hrol, hci, ?_⟩
        intro H4 qa a' L' as' ds' hq hql hx4 N4 hL' hb' fr nxa'
        have nqF : qa ≠ Fa := (ne_of_none hF3 hq).symm
        have nFx : Fa ≠ x := ne_of hF3 (S3 _ _ hxd) (by intro z; cases z)
        have nFds : Fa ∉ ds := fun hm => by
          obtain ⟨e, he, z⟩ := List.mem_iff_getElem.mp hm
          obtain ⟨kvs, g1, _⟩ := N.dict e Fa (by rw [List.getElem?_eq_getElem he, z])
          rw [hFl] at g1
          cases g1
        have hF4 := fr _ _ hF3 nFx nFL nFds
        have S4 : Same H H4 := fun b o e => by
          refine fr b o (SS3 _ _ e) (fun z => ?_) (fun z => ?_) fun z => ?_
          · rw [z, hx] at e
            cases e
          · rw [z, hL] at e
            cases e
          · rw [hds b z] at e
            cases e
        have hstep : Rd03Neutral.step s (PyRd03.whole (rawOf w nums row)) = ((Rd03.does s xc).1, ansOf (Rd03.does s xc).2) := step_is hco
        generalize hdoes : Rd03.does s xc = dres at hql N4 hstep
        obtain ⟨s', an⟩ := dres
        have hout2 : out ++ (((ansOf an).length : Int) :: ansOf an) ++ PyFlat.told (PyFlat.played Rd03Neutral.step s' (rest'.map PyRd03.whole)) = PyRd03.answers l := by
          rw [← hout, List.map_cons]
          show _ = out ++ PyFlat.told ((Rd03Neutral.step s (PyRd03.whole (rawOf w nums row))).2 :: PyFlat.played Rd03Neutral.step (Rd03Neutral.step s (PyRd03.whole (rawOf w nums row))).1 (rest'.map PyRd03.whole))
          rw [hstep, told_cons, List.append_assoc]
        have olen2 : out.length + 1 + (ansOf an).length ≤ 10000000 := by
          have := congrArg List.length hout2
          simp only [List.length_append, List.length_cons] at this
          omega
        -- found.append(len(told))
        refine ⟨_, rfl, .inl ⟨rfl, _, SqL.of hF4⟩, _, rfl, qa, _, rfl, .inl (SqL.of hql), Fa, _, _, rfl, rfl, hF4, Nat.lt_of_le_of_lt (by rw [List.length_map]; exact olen) (by decide), ?_⟩
        -- found.extend(told)
        have hF5 : upd H4 Fa (.lst (out.map V.int ++ [.int ((((ansOf an).map V.int).length : Nat) : Int)])) Fa = some (.lst (out.map V.int ++ [.int ((((ansOf an).map V.int).length : Nat) : Int)])) := upd_same
        refine ⟨_, rfl, .inl ⟨rfl, _, SqL.of hF5⟩, _, rfl, Fa, qa, _, _, rfl, rfl, hF5, by rw [upd_ne nqF]; exact hql, ?_, ?_⟩
        · refine Nat.le_trans (m := 10000000) ?_ (by decide)
          simp only [List.length_append, List.length_map, List.length_singleton]
          omega
        -- at = behind
        have nFL' : Fa ≠ L' := by
          rcases hL' with z | z
          · rw [z]
            exact nFL
          · exact ne_of_none hF3 z
        refine ⟨_, rfl, l.length - j, by omega, j, out ++ (((ansOf an).length : Int) :: ansOf an), s', c + 1, a', L', as', ds', rest', f', _, _, _, _, rfl, same_new (same_new S4 hF0) hF0, ?_, fun b hb => ?_, nFL', ?_, nxa', ?_, (N4.frame hF4 nFL').frame hF5 nFL', hc', hjl, by omega, hins'.2, hout2, rfl⟩
        · rcases hL' with z | z
          · rw [z]
            exact hL
          · exact SS3.free z
        · rcases hb' b hb with z | z
          · exact hds b z
          · exact SS3.free z
        · rw [upd_ne nFx.symm, upd_ne nFx.symm]
          exact hx4
        · rw [upd_same, List.length_map, List.map_append, List.map_cons, List.append_assoc]
          rfl
      · refine if_false_of (decide_eq_false (by omega)) ?_
        have hil2 : i = l.length := by omega
        subst hil2
        rw [List.drop_length] at hcalls
        have hr0 : rest = [] := by
          have : some [] = some rest := by
            rw [← hcalls]
            cases f <;> rfl
          exact (Option.some.inj this).symm
        subst hr0
        have hout3 : out = PyRd03.answers l := by
          rw [← hout]
          show out = out ++ []
          rw [List.append_nil]
        rw [hout3] at hFl
        exact ⟨_, rfl, q H2 Fa hFl⟩
end
end NM
namespace NM
set_option maxRecDepth 100000
set_option maxHeartbeats 8000000
open PySem L2
/-! ### what the top has written -/
theorem all_mk {P : Program} {w : World} {K : PySem.W.Frag} {h : Heap} {mg : Str → Option Value} {fa cL cN cD : Addr} (X : K.In h) (G : h.Ns mainGlobals mg) (hfa : mg "answers" = some (.ref fa))
    {f_is_prime : Addr} {od_is_prime an_is_prime : Option Addr} {sl_is_prime : Array (Option Value)} {oc_is_prime kV_is_prime dc_is_prime pm_is_prime cd_is_prime ct_is_prime : Value}
    {f_inverse_of : Addr} {od_inverse_of an_inverse_of : Option Addr} {sl_inverse_of : Array (Option Value)} {oc_inverse_of kV_inverse_of dc_inverse_of pm_inverse_of cd_inverse_of ct_inverse_of : Value}
    {f_added : Addr} {od_added an_added : Option Addr} {sl_added : Array (Option Value)} {oc_added kV_added dc_added pm_added cd_added ct_added : Value}
    {f_vector_from_messages : Addr} {od_vector_from_messages an_vector_from_messages : Option Addr} {sl_vector_from_messages : Array (Option Value)} {oc_vector_from_messages kV_vector_from_messages dc_vector_from_messages pm_vector_from_messages cd_vector_from_messages ct_vector_from_messages : Value}
    {f_vector_from_lines : Addr} {od_vector_from_lines an_vector_from_lines : Option Addr} {sl_vector_from_lines : Array (Option Value)} {oc_vector_from_lines kV_vector_from_lines dc_vector_from_lines pm_vector_from_lines cd_vector_from_lines ct_vector_from_lines : Value}
    {f_all_vectors : Addr} {od_all_vectors an_all_vectors : Option Addr} {sl_all_vectors : Array (Option Value)} {oc_all_vectors kV_all_vectors dc_all_vectors pm_all_vectors cd_all_vectors ct_all_vectors : Value}
    {f_vector_of : Addr} {od_vector_of an_vector_of : Option Addr} {sl_vector_of : Array (Option Value)} {oc_vector_of kV_vector_of dc_vector_of pm_vector_of cd_vector_of ct_vector_of : Value}
    {f_carried : Addr} {od_carried an_carried : Option Addr} {sl_carried : Array (Option Value)} {oc_carried kV_carried dc_carried pm_carried cd_carried ct_carried : Value}
    {f_first_place : Addr} {od_first_place an_first_place : Option Addr} {sl_first_place : Array (Option Value)} {oc_first_place kV_first_place dc_first_place pm_first_place cd_first_place ct_first_place : Value}
    {f_lessened : Addr} {od_lessened an_lessened : Option Addr} {sl_lessened : Array (Option Value)} {oc_lessened kV_lessened dc_lessened pm_lessened cd_lessened ct_lessened : Value}
    {f_rank_of : Addr} {od_rank_of an_rank_of : Option Addr} {sl_rank_of : Array (Option Value)} {oc_rank_of kV_rank_of dc_rank_of pm_rank_of cd_rank_of ct_rank_of : Value}
    {f_node_rank : Addr} {od_node_rank an_node_rank : Option Addr} {sl_node_rank : Array (Option Value)} {oc_node_rank kV_node_rank dc_node_rank pm_node_rank cd_node_rank ct_node_rank : Value}
    {f_steps_from : Addr} {od_steps_from an_steps_from : Option Addr} {sl_steps_from : Array (Option Value)} {oc_steps_from kV_steps_from dc_steps_from pm_steps_from cd_steps_from ct_steps_from : Value}
    {f_reached : Addr} {od_reached an_reached : Option Addr} {sl_reached : Array (Option Value)} {oc_reached kV_reached dc_reached pm_reached cd_reached ct_reached : Value}
    {f_way_to : Addr} {od_way_to an_way_to : Option Addr} {sl_way_to : Array (Option Value)} {oc_way_to kV_way_to dc_way_to pm_way_to cd_way_to ct_way_to : Value}
    {f_with_way : Addr} {od_with_way an_with_way : Option Addr} {sl_with_way : Array (Option Value)} {oc_with_way kV_with_way dc_with_way pm_with_way cd_with_way ct_with_way : Value}
    {f_node_cut : Addr} {od_node_cut an_node_cut : Option Addr} {sl_node_cut : Array (Option Value)} {oc_node_cut kV_node_cut dc_node_cut pm_node_cut cd_node_cut ct_node_cut : Value}
    {f_is_size : Addr} {od_is_size an_is_size : Option Addr} {sl_is_size : Array (Option Value)} {oc_is_size kV_is_size dc_is_size pm_is_size cd_is_size ct_is_size : Value}
    {f_put_line : Addr} {od_put_line an_put_line : Option Addr} {sl_put_line : Array (Option Value)} {oc_put_line kV_put_line dc_put_line pm_put_line cd_put_line ct_put_line : Value}
    {f_mix : Addr} {od_mix an_mix : Option Addr} {sl_mix : Array (Option Value)} {oc_mix kV_mix dc_mix pm_mix cd_mix ct_mix : Value}
    {f_tell_vector : Addr} {od_tell_vector an_tell_vector : Option Addr} {sl_tell_vector : Array (Option Value)} {oc_tell_vector kV_tell_vector dc_tell_vector pm_tell_vector cd_tell_vector ct_tell_vector : Value}
    {f_tell_rank : Addr} {od_tell_rank an_tell_rank : Option Addr} {sl_tell_rank : Array (Option Value)} {oc_tell_rank kV_tell_rank dc_tell_rank pm_tell_rank cd_tell_rank ct_tell_rank : Value}
    {f_tell_cut : Addr} {od_tell_cut an_tell_cut : Option Addr} {sl_tell_cut : Array (Option Value)} {oc_tell_cut kV_tell_cut dc_tell_cut pm_tell_cut cd_tell_cut ct_tell_cut : Value}
    {f_send : Addr} {od_send an_send : Option Addr} {sl_send : Array (Option Value)} {oc_send kV_send dc_send pm_send cd_send ct_send : Value}
    {f_answered : Addr} {od_answered an_answered : Option Addr} {sl_answered : Array (Option Value)} {oc_answered kV_answered dc_answered pm_answered cd_answered ct_answered : Value}
    {f_call_at : Addr} {od_call_at an_call_at : Option Addr} {sl_call_at : Array (Option Value)} {oc_call_at kV_call_at dc_call_at pm_call_at cd_call_at ct_call_at : Value}
    {f_answers : Addr} {od_answers an_answers : Option Addr} {sl_answers : Array (Option Value)} {oc_answers kV_answers dc_answers pm_answers cd_answers ct_answers : Value}
    {f_amount : Addr} {od_amount an_amount : Option Addr} {sl_amount : Array (Option Value)} {oc_amount kV_amount dc_amount pm_amount cd_amount ct_amount : Value}
    {f_has_node : Addr} {od_has_node an_has_node : Option Addr} {sl_has_node : Array (Option Value)} {oc_has_node kV_has_node dc_has_node pm_has_node cd_has_node ct_has_node : Value}
    {f_has_line : Addr} {od_has_line an_has_line : Option Addr} {sl_has_line : Array (Option Value)} {oc_has_line kV_has_line dc_has_line pm_has_line cd_has_line ct_has_line : Value}
    {f_lines_into : Addr} {od_lines_into an_lines_into : Option Addr} {sl_lines_into : Array (Option Value)} {oc_lines_into kV_lines_into dc_lines_into pm_lines_into cd_lines_into ct_lines_into : Value}
    {f_lines_from : Addr} {od_lines_from an_lines_from : Option Addr} {sl_lines_from : Array (Option Value)} {oc_lines_from kV_lines_from dc_lines_from pm_lines_from cd_lines_from ct_lines_from : Value}
    {f_is_part : Addr} {od_is_part an_is_part : Option Addr} {sl_is_part : Array (Option Value)} {oc_is_part kV_is_part dc_is_part pm_is_part cd_is_part ct_is_part : Value}
    {f_done : Addr} {od_done an_done : Option Addr} {sl_done : Array (Option Value)} {oc_done kV_done dc_done pm_done cd_done ct_done : Value}
    {f_Line : Addr} {od_Line an_Line : Option Addr} {sl_Line : Array (Option Value)} {oc_Line kV_Line dc_Line pm_Line cd_Line ct_Line : Value}
    {f_Net : Addr} {od_Net an_Net : Option Addr} {sl_Net : Array (Option Value)} {oc_Net kV_Net dc_Net pm_Net cd_Net ct_Net : Value}
    {f_Desk : Addr} {od_Desk an_Desk : Option Addr} {sl_Desk : Array (Option Value)} {oc_Desk kV_Desk dc_Desk pm_Desk cd_Desk ct_Desk : Value}
    {t_MOST_NODES : Tok}
    {t_MOST_LINES : Tok}
    {t_MOST_MESSAGES : Tok}
    {t_LEAST_PRIME : Tok}
    {t_GREATEST_PRIME : Tok}
    {t_DONE : Tok}
    {t_REFUSED : Tok}
    {t_FULL : Tok}
    {t_BEGIN : Tok}
    {t_SIZE : Tok}
    {t_LINE : Tok}
    {t_MIX : Tok}
    {t_VECTOR : Tok}
    {t_RANK : Tok}
    {t_CUT : Tok}
    {t_SEND : Tok}
    {aN : Addr} {odN : Option Addr} {slN : Array (Option Value)} {nN : Nat} {tn0 tn1 tn2 tn3 tn4 tn5 tn6 tn7 : Tok}
    (aLine : PySem.W.nsIn K mainGlobals "Line" = some (some (.ref cL)))
    (aNet : PySem.W.nsIn K mainGlobals "Net" = some (some (.ref cN)))
    (aDesk : PySem.W.nsIn K mainGlobals "Desk" = some (some (.ref cD)))
    (a_is_prime : PySem.W.nsIn K mainGlobals "is_prime" = some (some (.ref f_is_prime)))
    (l_is_prime : K.lookup f_is_prime = some ⟨oc_is_prime, od_is_prime, .func (PySem.W.fnOf "is_prime" "is_prime" (defArgs s_is_prime) (defBody s_is_prime) (defScope s_is_prime) .none kV_is_prime dc_is_prime pm_is_prime an_is_prime cd_is_prime ct_is_prime), sl_is_prime⟩)
    (c_is_prime : PySem.W.codeIn K cd_is_prime "is_prime" = true)
    (k_is_prime : PySem.W.keepIn K (.ref f_is_prime) = true)
    (a_inverse_of : PySem.W.nsIn K mainGlobals "inverse_of" = some (some (.ref f_inverse_of)))
    (l_inverse_of : K.lookup f_inverse_of = some ⟨oc_inverse_of, od_inverse_of, .func (PySem.W.fnOf "inverse_of" "inverse_of" (defArgs s_inverse_of) (defBody s_inverse_of) (defScope s_inverse_of) .none kV_inverse_of dc_inverse_of pm_inverse_of an_inverse_of cd_inverse_of ct_inverse_of), sl_inverse_of⟩)
    (c_inverse_of : PySem.W.codeIn K cd_inverse_of "inverse_of" = true)
    (k_inverse_of : PySem.W.keepIn K (.ref f_inverse_of) = true)
    (a_added : PySem.W.nsIn K mainGlobals "added" = some (some (.ref f_added)))
    (l_added : K.lookup f_added = some ⟨oc_added, od_added, .func (PySem.W.fnOf "added" "added" (defArgs s_added) (defBody s_added) (defScope s_added) .none kV_added dc_added pm_added an_added cd_added ct_added), sl_added⟩)
    (c_added : PySem.W.codeIn K cd_added "added" = true)
    (k_added : PySem.W.keepIn K (.ref f_added) = true)
    (a_vector_from_messages : PySem.W.nsIn K mainGlobals "vector_from_messages" = some (some (.ref f_vector_from_messages)))
    (l_vector_from_messages : K.lookup f_vector_from_messages = some ⟨oc_vector_from_messages, od_vector_from_messages, .func (PySem.W.fnOf "vector_from_messages" "vector_from_messages" (defArgs s_vector_from_messages) (defBody s_vector_from_messages) (defScope s_vector_from_messages) .none kV_vector_from_messages dc_vector_from_messages pm_vector_from_messages an_vector_from_messages cd_vector_from_messages ct_vector_from_messages), sl_vector_from_messages⟩)
    (c_vector_from_messages : PySem.W.codeIn K cd_vector_from_messages "vector_from_messages" = true)
    (k_vector_from_messages : PySem.W.keepIn K (.ref f_vector_from_messages) = true)
    (a_vector_from_lines : PySem.W.nsIn K mainGlobals "vector_from_lines" = some (some (.ref f_vector_from_lines)))
    (l_vector_from_lines : K.lookup f_vector_from_lines = some ⟨oc_vector_from_lines, od_vector_from_lines, .func (PySem.W.fnOf "vector_from_lines" "vector_from_lines" (defArgs s_vector_from_lines) (defBody s_vector_from_lines) (defScope s_vector_from_lines) .none kV_vector_from_lines dc_vector_from_lines pm_vector_from_lines an_vector_from_lines cd_vector_from_lines ct_vector_from_lines), sl_vector_from_lines⟩)
    (c_vector_from_lines : PySem.W.codeIn K cd_vector_from_lines "vector_from_lines" = true)
    (k_vector_from_lines : PySem.W.keepIn K (.ref f_vector_from_lines) = true)
    (a_all_vectors : PySem.W.nsIn K mainGlobals "all_vectors" = some (some (.ref f_all_vectors)))
    (l_all_vectors : K.lookup f_all_vectors = some ⟨oc_all_vectors, od_all_vectors, .func (PySem.W.fnOf "all_vectors" "all_vectors" (defArgs s_all_vectors) (defBody s_all_vectors) (defScope s_all_vectors) .none kV_all_vectors dc_all_vectors pm_all_vectors an_all_vectors cd_all_vectors ct_all_vectors), sl_all_vectors⟩)
    (c_all_vectors : PySem.W.codeIn K cd_all_vectors "all_vectors" = true)
    (k_all_vectors : PySem.W.keepIn K (.ref f_all_vectors) = true)
    (a_vector_of : PySem.W.nsIn K mainGlobals "vector_of" = some (some (.ref f_vector_of)))
    (l_vector_of : K.lookup f_vector_of = some ⟨oc_vector_of, od_vector_of, .func (PySem.W.fnOf "vector_of" "vector_of" (defArgs s_vector_of) (defBody s_vector_of) (defScope s_vector_of) .none kV_vector_of dc_vector_of pm_vector_of an_vector_of cd_vector_of ct_vector_of), sl_vector_of⟩)
    (c_vector_of : PySem.W.codeIn K cd_vector_of "vector_of" = true)
    (k_vector_of : PySem.W.keepIn K (.ref f_vector_of) = true)
    (a_carried : PySem.W.nsIn K mainGlobals "carried" = some (some (.ref f_carried)))
    (l_carried : K.lookup f_carried = some ⟨oc_carried, od_carried, .func (PySem.W.fnOf "carried" "carried" (defArgs s_carried) (defBody s_carried) (defScope s_carried) .none kV_carried dc_carried pm_carried an_carried cd_carried ct_carried), sl_carried⟩)
    (c_carried : PySem.W.codeIn K cd_carried "carried" = true)
    (k_carried : PySem.W.keepIn K (.ref f_carried) = true)
    (a_first_place : PySem.W.nsIn K mainGlobals "first_place" = some (some (.ref f_first_place)))
    (l_first_place : K.lookup f_first_place = some ⟨oc_first_place, od_first_place, .func (PySem.W.fnOf "first_place" "first_place" (defArgs s_first_place) (defBody s_first_place) (defScope s_first_place) .none kV_first_place dc_first_place pm_first_place an_first_place cd_first_place ct_first_place), sl_first_place⟩)
    (c_first_place : PySem.W.codeIn K cd_first_place "first_place" = true)
    (k_first_place : PySem.W.keepIn K (.ref f_first_place) = true)
    (a_lessened : PySem.W.nsIn K mainGlobals "lessened" = some (some (.ref f_lessened)))
    (l_lessened : K.lookup f_lessened = some ⟨oc_lessened, od_lessened, .func (PySem.W.fnOf "lessened" "lessened" (defArgs s_lessened) (defBody s_lessened) (defScope s_lessened) .none kV_lessened dc_lessened pm_lessened an_lessened cd_lessened ct_lessened), sl_lessened⟩)
    (c_lessened : PySem.W.codeIn K cd_lessened "lessened" = true)
    (k_lessened : PySem.W.keepIn K (.ref f_lessened) = true)
    (a_rank_of : PySem.W.nsIn K mainGlobals "rank_of" = some (some (.ref f_rank_of)))
    (l_rank_of : K.lookup f_rank_of = some ⟨oc_rank_of, od_rank_of, .func (PySem.W.fnOf "rank_of" "rank_of" (defArgs s_rank_of) (defBody s_rank_of) (defScope s_rank_of) .none kV_rank_of dc_rank_of pm_rank_of an_rank_of cd_rank_of ct_rank_of), sl_rank_of⟩)
    (c_rank_of : PySem.W.codeIn K cd_rank_of "rank_of" = true)
    (k_rank_of : PySem.W.keepIn K (.ref f_rank_of) = true)
    (a_node_rank : PySem.W.nsIn K mainGlobals "node_rank" = some (some (.ref f_node_rank)))
    (l_node_rank : K.lookup f_node_rank = some ⟨oc_node_rank, od_node_rank, .func (PySem.W.fnOf "node_rank" "node_rank" (defArgs s_node_rank) (defBody s_node_rank) (defScope s_node_rank) .none kV_node_rank dc_node_rank pm_node_rank an_node_rank cd_node_rank ct_node_rank), sl_node_rank⟩)
    (c_node_rank : PySem.W.codeIn K cd_node_rank "node_rank" = true)
    (k_node_rank : PySem.W.keepIn K (.ref f_node_rank) = true)
    (a_steps_from : PySem.W.nsIn K mainGlobals "steps_from" = some (some (.ref f_steps_from)))
    (l_steps_from : K.lookup f_steps_from = some ⟨oc_steps_from, od_steps_from, .func (PySem.W.fnOf "steps_from" "steps_from" (defArgs s_steps_from) (defBody s_steps_from) (defScope s_steps_from) .none kV_steps_from dc_steps_from pm_steps_from an_steps_from cd_steps_from ct_steps_from), sl_steps_from⟩)
    (c_steps_from : PySem.W.codeIn K cd_steps_from "steps_from" = true)
    (k_steps_from : PySem.W.keepIn K (.ref f_steps_from) = true)
    (a_reached : PySem.W.nsIn K mainGlobals "reached" = some (some (.ref f_reached)))
    (l_reached : K.lookup f_reached = some ⟨oc_reached, od_reached, .func (PySem.W.fnOf "reached" "reached" (defArgs s_reached) (defBody s_reached) (defScope s_reached) .none kV_reached dc_reached pm_reached an_reached cd_reached ct_reached), sl_reached⟩)
    (c_reached : PySem.W.codeIn K cd_reached "reached" = true)
    (k_reached : PySem.W.keepIn K (.ref f_reached) = true)
    (a_way_to : PySem.W.nsIn K mainGlobals "way_to" = some (some (.ref f_way_to)))
    (l_way_to : K.lookup f_way_to = some ⟨oc_way_to, od_way_to, .func (PySem.W.fnOf "way_to" "way_to" (defArgs s_way_to) (defBody s_way_to) (defScope s_way_to) .none kV_way_to dc_way_to pm_way_to an_way_to cd_way_to ct_way_to), sl_way_to⟩)
    (c_way_to : PySem.W.codeIn K cd_way_to "way_to" = true)
    (k_way_to : PySem.W.keepIn K (.ref f_way_to) = true)
    (a_with_way : PySem.W.nsIn K mainGlobals "with_way" = some (some (.ref f_with_way)))
    (l_with_way : K.lookup f_with_way = some ⟨oc_with_way, od_with_way, .func (PySem.W.fnOf "with_way" "with_way" (defArgs s_with_way) (defBody s_with_way) (defScope s_with_way) .none kV_with_way dc_with_way pm_with_way an_with_way cd_with_way ct_with_way), sl_with_way⟩)
    (c_with_way : PySem.W.codeIn K cd_with_way "with_way" = true)
    (k_with_way : PySem.W.keepIn K (.ref f_with_way) = true)
    (a_node_cut : PySem.W.nsIn K mainGlobals "node_cut" = some (some (.ref f_node_cut)))
    (l_node_cut : K.lookup f_node_cut = some ⟨oc_node_cut, od_node_cut, .func (PySem.W.fnOf "node_cut" "node_cut" (defArgs s_node_cut) (defBody s_node_cut) (defScope s_node_cut) .none kV_node_cut dc_node_cut pm_node_cut an_node_cut cd_node_cut ct_node_cut), sl_node_cut⟩)
    (c_node_cut : PySem.W.codeIn K cd_node_cut "node_cut" = true)
    (k_node_cut : PySem.W.keepIn K (.ref f_node_cut) = true)
    (a_is_size : PySem.W.nsIn K mainGlobals "is_size" = some (some (.ref f_is_size)))
    (l_is_size : K.lookup f_is_size = some ⟨oc_is_size, od_is_size, .func (PySem.W.fnOf "is_size" "is_size" (defArgs s_is_size) (defBody s_is_size) (defScope s_is_size) .none kV_is_size dc_is_size pm_is_size an_is_size cd_is_size ct_is_size), sl_is_size⟩)
    (c_is_size : PySem.W.codeIn K cd_is_size "is_size" = true)
    (k_is_size : PySem.W.keepIn K (.ref f_is_size) = true)
    (a_put_line : PySem.W.nsIn K mainGlobals "put_line" = some (some (.ref f_put_line)))
    (l_put_line : K.lookup f_put_line = some ⟨oc_put_line, od_put_line, .func (PySem.W.fnOf "put_line" "put_line" (defArgs s_put_line) (defBody s_put_line) (defScope s_put_line) .none kV_put_line dc_put_line pm_put_line an_put_line cd_put_line ct_put_line), sl_put_line⟩)
    (c_put_line : PySem.W.codeIn K cd_put_line "put_line" = true)
    (k_put_line : PySem.W.keepIn K (.ref f_put_line) = true)
    (a_mix : PySem.W.nsIn K mainGlobals "mix" = some (some (.ref f_mix)))
    (l_mix : K.lookup f_mix = some ⟨oc_mix, od_mix, .func (PySem.W.fnOf "mix" "mix" (defArgs s_mix) (defBody s_mix) (defScope s_mix) .none kV_mix dc_mix pm_mix an_mix cd_mix ct_mix), sl_mix⟩)
    (c_mix : PySem.W.codeIn K cd_mix "mix" = true)
    (k_mix : PySem.W.keepIn K (.ref f_mix) = true)
    (a_tell_vector : PySem.W.nsIn K mainGlobals "tell_vector" = some (some (.ref f_tell_vector)))
    (l_tell_vector : K.lookup f_tell_vector = some ⟨oc_tell_vector, od_tell_vector, .func (PySem.W.fnOf "tell_vector" "tell_vector" (defArgs s_tell_vector) (defBody s_tell_vector) (defScope s_tell_vector) .none kV_tell_vector dc_tell_vector pm_tell_vector an_tell_vector cd_tell_vector ct_tell_vector), sl_tell_vector⟩)
    (c_tell_vector : PySem.W.codeIn K cd_tell_vector "tell_vector" = true)
    (k_tell_vector : PySem.W.keepIn K (.ref f_tell_vector) = true)
    (a_tell_rank : PySem.W.nsIn K mainGlobals "tell_rank" = some (some (.ref f_tell_rank)))
    (l_tell_rank : K.lookup f_tell_rank = some ⟨oc_tell_rank, od_tell_rank, .func (PySem.W.fnOf "tell_rank" "tell_rank" (defArgs s_tell_rank) (defBody s_tell_rank) (defScope s_tell_rank) .none kV_tell_rank dc_tell_rank pm_tell_rank an_tell_rank cd_tell_rank ct_tell_rank), sl_tell_rank⟩)
    (c_tell_rank : PySem.W.codeIn K cd_tell_rank "tell_rank" = true)
    (k_tell_rank : PySem.W.keepIn K (.ref f_tell_rank) = true)
    (a_tell_cut : PySem.W.nsIn K mainGlobals "tell_cut" = some (some (.ref f_tell_cut)))
    (l_tell_cut : K.lookup f_tell_cut = some ⟨oc_tell_cut, od_tell_cut, .func (PySem.W.fnOf "tell_cut" "tell_cut" (defArgs s_tell_cut) (defBody s_tell_cut) (defScope s_tell_cut) .none kV_tell_cut dc_tell_cut pm_tell_cut an_tell_cut cd_tell_cut ct_tell_cut), sl_tell_cut⟩)
    (c_tell_cut : PySem.W.codeIn K cd_tell_cut "tell_cut" = true)
    (k_tell_cut : PySem.W.keepIn K (.ref f_tell_cut) = true)
    (a_send : PySem.W.nsIn K mainGlobals "send" = some (some (.ref f_send)))
    (l_send : K.lookup f_send = some ⟨oc_send, od_send, .func (PySem.W.fnOf "send" "send" (defArgs s_send) (defBody s_send) (defScope s_send) .none kV_send dc_send pm_send an_send cd_send ct_send), sl_send⟩)
    (c_send : PySem.W.codeIn K cd_send "send" = true)
    (k_send : PySem.W.keepIn K (.ref f_send) = true)
    (a_answered : PySem.W.nsIn K mainGlobals "answered" = some (some (.ref f_answered)))
    (l_answered : K.lookup f_answered = some ⟨oc_answered, od_answered, .func (PySem.W.fnOf "answered" "answered" (defArgs s_answered) (defBody s_answered) (defScope s_answered) .none kV_answered dc_answered pm_answered an_answered cd_answered ct_answered), sl_answered⟩)
    (c_answered : PySem.W.codeIn K cd_answered "answered" = true)
    (k_answered : PySem.W.keepIn K (.ref f_answered) = true)
    (a_call_at : PySem.W.nsIn K mainGlobals "call_at" = some (some (.ref f_call_at)))
    (l_call_at : K.lookup f_call_at = some ⟨oc_call_at, od_call_at, .func (PySem.W.fnOf "call_at" "call_at" (defArgs s_call_at) (defBody s_call_at) (defScope s_call_at) .none kV_call_at dc_call_at pm_call_at an_call_at cd_call_at ct_call_at), sl_call_at⟩)
    (c_call_at : PySem.W.codeIn K cd_call_at "call_at" = true)
    (k_call_at : PySem.W.keepIn K (.ref f_call_at) = true)
    (a_answers : PySem.W.nsIn K mainGlobals "answers" = some (some (.ref f_answers)))
    (l_answers : K.lookup f_answers = some ⟨oc_answers, od_answers, .func (PySem.W.fnOf "answers" "answers" (defArgs s_answers) (defBody s_answers) (defScope s_answers) .none kV_answers dc_answers pm_answers an_answers cd_answers ct_answers), sl_answers⟩)
    (c_answers : PySem.W.codeIn K cd_answers "answers" = true)
    (k_answers : PySem.W.keepIn K (.ref f_answers) = true)
    (a_amount : PySem.W.findIn K (.ref cL) "amount" = some (some (.ref f_amount)))
    (i_amount : PySem.W.isFn K (.ref f_amount) = true)
    (l_amount : K.lookup f_amount = some ⟨oc_amount, od_amount, .func (PySem.W.fnOf "amount" "Line.amount" (defArgs s_Line_amount) (defBody s_Line_amount) (defScope s_Line_amount) .none kV_amount dc_amount pm_amount an_amount cd_amount ct_amount), sl_amount⟩)
    (c_amount : PySem.W.codeIn K cd_amount "Line.amount" = true)
    (k_amount : PySem.W.keepIn K (.ref f_amount) = true)
    (a_has_node : PySem.W.findIn K (.ref cN) "has_node" = some (some (.ref f_has_node)))
    (i_has_node : PySem.W.isFn K (.ref f_has_node) = true)
    (l_has_node : K.lookup f_has_node = some ⟨oc_has_node, od_has_node, .func (PySem.W.fnOf "has_node" "Net.has_node" (defArgs s_Net_has_node) (defBody s_Net_has_node) (defScope s_Net_has_node) .none kV_has_node dc_has_node pm_has_node an_has_node cd_has_node ct_has_node), sl_has_node⟩)
    (c_has_node : PySem.W.codeIn K cd_has_node "Net.has_node" = true)
    (k_has_node : PySem.W.keepIn K (.ref f_has_node) = true)
    (a_has_line : PySem.W.findIn K (.ref cN) "has_line" = some (some (.ref f_has_line)))
    (i_has_line : PySem.W.isFn K (.ref f_has_line) = true)
    (l_has_line : K.lookup f_has_line = some ⟨oc_has_line, od_has_line, .func (PySem.W.fnOf "has_line" "Net.has_line" (defArgs s_Net_has_line) (defBody s_Net_has_line) (defScope s_Net_has_line) .none kV_has_line dc_has_line pm_has_line an_has_line cd_has_line ct_has_line), sl_has_line⟩)
    (c_has_line : PySem.W.codeIn K cd_has_line "Net.has_line" = true)
    (k_has_line : PySem.W.keepIn K (.ref f_has_line) = true)
    (a_lines_into : PySem.W.findIn K (.ref cN) "lines_into" = some (some (.ref f_lines_into)))
    (i_lines_into : PySem.W.isFn K (.ref f_lines_into) = true)
    (l_lines_into : K.lookup f_lines_into = some ⟨oc_lines_into, od_lines_into, .func (PySem.W.fnOf "lines_into" "Net.lines_into" (defArgs s_Net_lines_into) (defBody s_Net_lines_into) (defScope s_Net_lines_into) .none kV_lines_into dc_lines_into pm_lines_into an_lines_into cd_lines_into ct_lines_into), sl_lines_into⟩)
    (c_lines_into : PySem.W.codeIn K cd_lines_into "Net.lines_into" = true)
    (k_lines_into : PySem.W.keepIn K (.ref f_lines_into) = true)
    (a_lines_from : PySem.W.findIn K (.ref cN) "lines_from" = some (some (.ref f_lines_from)))
    (i_lines_from : PySem.W.isFn K (.ref f_lines_from) = true)
    (l_lines_from : K.lookup f_lines_from = some ⟨oc_lines_from, od_lines_from, .func (PySem.W.fnOf "lines_from" "Net.lines_from" (defArgs s_Net_lines_from) (defBody s_Net_lines_from) (defScope s_Net_lines_from) .none kV_lines_from dc_lines_from pm_lines_from an_lines_from cd_lines_from ct_lines_from), sl_lines_from⟩)
    (c_lines_from : PySem.W.codeIn K cd_lines_from "Net.lines_from" = true)
    (k_lines_from : PySem.W.keepIn K (.ref f_lines_from) = true)
    (a_is_part : PySem.W.findIn K (.ref cN) "is_part" = some (some (.ref f_is_part)))
    (i_is_part : PySem.W.isFn K (.ref f_is_part) = true)
    (l_is_part : K.lookup f_is_part = some ⟨oc_is_part, od_is_part, .func (PySem.W.fnOf "is_part" "Net.is_part" (defArgs s_Net_is_part) (defBody s_Net_is_part) (defScope s_Net_is_part) .none kV_is_part dc_is_part pm_is_part an_is_part cd_is_part ct_is_part), sl_is_part⟩)
    (c_is_part : PySem.W.codeIn K cd_is_part "Net.is_part" = true)
    (k_is_part : PySem.W.keepIn K (.ref f_is_part) = true)
    (a_done : PySem.W.findIn K (.ref cD) "done" = some (some (.ref f_done)))
    (i_done : PySem.W.isFn K (.ref f_done) = true)
    (l_done : K.lookup f_done = some ⟨oc_done, od_done, .func (PySem.W.fnOf "done" "Desk.done" (defArgs s_Desk_done) (defBody s_Desk_done) (defScope s_Desk_done) .none kV_done dc_done pm_done an_done cd_done ct_done), sl_done⟩)
    (c_done : PySem.W.codeIn K cd_done "Desk.done" = true)
    (k_done : PySem.W.keepIn K (.ref f_done) = true)
    (a_Line : PySem.W.findIn K (.ref cL) "__init__" = some (some (.ref f_Line)))
    (i_Line : PySem.W.isFn K (.ref f_Line) = true)
    (l_Line : K.lookup f_Line = some ⟨oc_Line, od_Line, .func (PySem.W.fnOf "__init__" "Line.__init__" (defArgs s_Line__init_) (defBody s_Line__init_) (defScope s_Line__init_) .none kV_Line dc_Line pm_Line an_Line cd_Line ct_Line), sl_Line⟩)
    (c_Line : PySem.W.codeIn K cd_Line "Line.__init__" = true)
    (k_Line : PySem.W.keepIn K (.ref f_Line) = true)
    (pgLine : PySem.W.plainGet K cL Str.empty = true)
    (hdLine : PySem.W.hasDictIn K cL = true)
    (poLine : PySem.W.plainOver K cL = true)
    (saLine : PySem.W.findIn K (.ref cL) "__setattr__" = some (some (.builtin "object.__setattr__")))
    (mkLine : PySem.W.makesIn K cL = true)
    (kcLine : PySem.W.keepIn K (.ref cL) = true)
    (a_Net : PySem.W.findIn K (.ref cN) "__init__" = some (some (.ref f_Net)))
    (i_Net : PySem.W.isFn K (.ref f_Net) = true)
    (l_Net : K.lookup f_Net = some ⟨oc_Net, od_Net, .func (PySem.W.fnOf "__init__" "Net.__init__" (defArgs s_Net__init_) (defBody s_Net__init_) (defScope s_Net__init_) .none kV_Net dc_Net pm_Net an_Net cd_Net ct_Net), sl_Net⟩)
    (c_Net : PySem.W.codeIn K cd_Net "Net.__init__" = true)
    (k_Net : PySem.W.keepIn K (.ref f_Net) = true)
    (pgNet : PySem.W.plainGet K cN Str.empty = true)
    (hdNet : PySem.W.hasDictIn K cN = true)
    (poNet : PySem.W.plainOver K cN = true)
    (saNet : PySem.W.findIn K (.ref cN) "__setattr__" = some (some (.builtin "object.__setattr__")))
    (mkNet : PySem.W.makesIn K cN = true)
    (kcNet : PySem.W.keepIn K (.ref cN) = true)
    (a_Desk : PySem.W.findIn K (.ref cD) "__init__" = some (some (.ref f_Desk)))
    (i_Desk : PySem.W.isFn K (.ref f_Desk) = true)
    (l_Desk : K.lookup f_Desk = some ⟨oc_Desk, od_Desk, .func (PySem.W.fnOf "__init__" "Desk.__init__" (defArgs s_Desk__init_) (defBody s_Desk__init_) (defScope s_Desk__init_) .none kV_Desk dc_Desk pm_Desk an_Desk cd_Desk ct_Desk), sl_Desk⟩)
    (c_Desk : PySem.W.codeIn K cd_Desk "Desk.__init__" = true)
    (k_Desk : PySem.W.keepIn K (.ref f_Desk) = true)
    (pgDesk : PySem.W.plainGet K cD Str.empty = true)
    (hdDesk : PySem.W.hasDictIn K cD = true)
    (poDesk : PySem.W.plainOver K cD = true)
    (saDesk : PySem.W.findIn K (.ref cD) "__setattr__" = some (some (.builtin "object.__setattr__")))
    (mkDesk : PySem.W.makesIn K cD = true)
    (kcDesk : PySem.W.keepIn K (.ref cD) = true)
    (n_start : PySem.W.findIn K (.ref cL) "start" = some none)
    (n_goal : PySem.W.findIn K (.ref cL) "goal" = some none)
    (n_amounts : PySem.W.findIn K (.ref cL) "amounts" = some none)
    (n_nodes : PySem.W.findIn K (.ref cN) "nodes" = some none)
    (n_p : PySem.W.findIn K (.ref cN) "p" = some none)
    (n_messages : PySem.W.findIn K (.ref cN) "messages" = some none)
    (n_lines : PySem.W.findIn K (.ref cN) "lines" = some none)
    (n_net : PySem.W.findIn K (.ref cD) "net" = some none)
    (z_len : PySem.W.nsIn K mainGlobals "len" = some none)
    (z_all : PySem.W.nsIn K mainGlobals "all" = some none)
    (z_sum : PySem.W.nsIn K mainGlobals "sum" = some none)
    (z_dict : PySem.W.nsIn K mainGlobals "dict" = some none)
    (z_range : PySem.W.nsIn K mainGlobals "range" = some none)
    (z_enumerate : PySem.W.nsIn K mainGlobals "enumerate" = some none)
    (z_zip : PySem.W.nsIn K mainGlobals "zip" = some none)
    (y_MOST_NODES : PySem.W.nsIn K mainGlobals "MOST_NODES" = some (some (.int (16) t_MOST_NODES)))
    (y_MOST_LINES : PySem.W.nsIn K mainGlobals "MOST_LINES" = some (some (.int (40) t_MOST_LINES)))
    (y_MOST_MESSAGES : PySem.W.nsIn K mainGlobals "MOST_MESSAGES" = some (some (.int (8) t_MOST_MESSAGES)))
    (y_LEAST_PRIME : PySem.W.nsIn K mainGlobals "LEAST_PRIME" = some (some (.int (2) t_LEAST_PRIME)))
    (y_GREATEST_PRIME : PySem.W.nsIn K mainGlobals "GREATEST_PRIME" = some (some (.int (251) t_GREATEST_PRIME)))
    (y_DONE : PySem.W.nsIn K mainGlobals "DONE" = some (some (.int (0) t_DONE)))
    (y_REFUSED : PySem.W.nsIn K mainGlobals "REFUSED" = some (some (.int (-1) t_REFUSED)))
    (y_FULL : PySem.W.nsIn K mainGlobals "FULL" = some (some (.int (-2) t_FULL)))
    (y_BEGIN : PySem.W.nsIn K mainGlobals "BEGIN" = some (some (.int (0) t_BEGIN)))
    (y_SIZE : PySem.W.nsIn K mainGlobals "SIZE" = some (some (.int (1) t_SIZE)))
    (y_LINE : PySem.W.nsIn K mainGlobals "LINE" = some (some (.int (2) t_LINE)))
    (y_MIX : PySem.W.nsIn K mainGlobals "MIX" = some (some (.int (3) t_MIX)))
    (y_VECTOR : PySem.W.nsIn K mainGlobals "VECTOR" = some (some (.int (4) t_VECTOR)))
    (y_RANK : PySem.W.nsIn K mainGlobals "RANK" = some (some (.int (5) t_RANK)))
    (y_CUT : PySem.W.nsIn K mainGlobals "CUT" = some (some (.int (6) t_CUT)))
    (y_SEND : PySem.W.nsIn K mainGlobals "SEND" = some (some (.int (7) t_SEND)))
    (aNum : PySem.W.nsIn K mainGlobals "NUMBERS" = some (some (.ref aN)))
    (lNum : K.lookup aN = some ⟨.type "tuple", odN, .seq #[.int 0 tn0, .int 3 tn1, .int 2 tn2, .int 3 tn3, .int 2 tn4, .int 1 tn5, .int 1 tn6, .int 1 tn7] nN, slN⟩)
    : ∃ fd : FuncData, (∀ (s : Shared) (us : List Value), us.length = (["calls"] : List Str).length → BindsTo s fd ⟨us, []⟩ ((["calls"] : List Str).zip us)) ∧ ∀ base : Heap, K.In base → base.Ns mainGlobals mg → FnOk P w K mg base CX0 9 fa fd ["calls"] (sp_answers K) := by
  have e := hfa.symm.trans (PySem.W.mg_of X G a_answers)
  cases e
  have T : Txt K mg cL cN cD := ⟨⟨pgLine, hdLine, poLine, saLine⟩, ⟨pgNet, hdNet, poNet, saNet⟩, ⟨pgDesk, hdDesk, poDesk, saDesk⟩, n_start, n_goal, n_amounts, n_nodes, n_p, n_messages, n_lines, n_net, PySem.W.mg_none_of X G z_len, PySem.W.mg_none_of X G z_all, PySem.W.mg_none_of X G z_sum, PySem.W.mg_none_of X G z_dict, PySem.W.mg_none_of X G z_range, PySem.W.mg_none_of X G z_enumerate, PySem.W.mg_none_of X G z_zip, ⟨_, PySem.W.mg_of X G y_MOST_NODES⟩, ⟨_, PySem.W.mg_of X G y_MOST_LINES⟩, ⟨_, PySem.W.mg_of X G y_MOST_MESSAGES⟩, ⟨_, PySem.W.mg_of X G y_LEAST_PRIME⟩, ⟨_, PySem.W.mg_of X G y_GREATEST_PRIME⟩, ⟨_, PySem.W.mg_of X G y_DONE⟩, ⟨_, PySem.W.mg_of X G y_REFUSED⟩, ⟨_, PySem.W.mg_of X G y_FULL⟩, ⟨_, PySem.W.mg_of X G y_BEGIN⟩, ⟨_, PySem.W.mg_of X G y_SIZE⟩, ⟨_, PySem.W.mg_of X G y_LINE⟩, ⟨_, PySem.W.mg_of X G y_MIX⟩, ⟨_, PySem.W.mg_of X G y_VECTOR⟩, ⟨_, PySem.W.mg_of X G y_RANK⟩, ⟨_, PySem.W.mg_of X G y_CUT⟩, ⟨_, PySem.W.mg_of X G y_SEND⟩, ⟨aN, PySem.W.mg_of X G aNum, fun _ => .inr ⟨_, _, _, lNum, rfl, rfl, by show 8 ≤ sizeLine; decide, .cons ⟨_, rfl⟩ (.cons ⟨_, rfl⟩ (.cons ⟨_, rfl⟩ (.cons ⟨_, rfl⟩ (.cons ⟨_, rfl⟩ (.cons ⟨_, rfl⟩ (.cons ⟨_, rfl⟩ (.cons ⟨_, rfl⟩ .nil)))))))⟩⟩⟩
  have F_is_prime := fun_mk (st := s_is_prime) l_is_prime c_is_prime k_is_prime
  have b_is_prime := F_is_prime.binds (ps := ["number"]) fun _ _ _ _ _ _ us hl => match us, hl with | [_], _ => rfl
  have F_inverse_of := fun_mk (st := s_inverse_of) l_inverse_of c_inverse_of k_inverse_of
  have b_inverse_of := F_inverse_of.binds (ps := ["number", "p"]) fun _ _ _ _ _ _ us hl => match us, hl with | [_, _], _ => rfl
  have F_added := fun_mk (st := s_added) l_added c_added k_added
  have b_added := F_added.binds (ps := ["one", "other", "times", "p"]) fun _ _ _ _ _ _ us hl => match us, hl with | [_, _, _, _], _ => rfl
  have F_vector_from_messages := fun_mk (st := s_vector_from_messages) l_vector_from_messages c_vector_from_messages k_vector_from_messages
  have b_vector_from_messages := F_vector_from_messages.binds (ps := ["net", "line"]) fun _ _ _ _ _ _ us hl => match us, hl with | [_, _], _ => rfl
  have F_vector_from_lines := fun_mk (st := s_vector_from_lines) l_vector_from_lines c_vector_from_lines k_vector_from_lines
  have b_vector_from_lines := F_vector_from_lines.binds (ps := ["net", "line", "told"]) fun _ _ _ _ _ _ us hl => match us, hl with | [_, _, _], _ => rfl
  have F_all_vectors := fun_mk (st := s_all_vectors) l_all_vectors c_all_vectors k_all_vectors
  have b_all_vectors := F_all_vectors.binds (ps := ["net"]) fun _ _ _ _ _ _ us hl => match us, hl with | [_], _ => rfl
  have F_vector_of := fun_mk (st := s_vector_of) l_vector_of c_vector_of k_vector_of
  have b_vector_of := F_vector_of.binds (ps := ["net", "e"]) fun _ _ _ _ _ _ us hl => match us, hl with | [_, _], _ => rfl
  have F_carried := fun_mk (st := s_carried) l_carried c_carried k_carried
  have b_carried := F_carried.binds (ps := ["net", "e", "messages"]) fun _ _ _ _ _ _ us hl => match us, hl with | [_, _, _], _ => rfl
  have F_first_place := fun_mk (st := s_first_place) l_first_place c_first_place k_first_place
  have b_first_place := F_first_place.binds (ps := ["row"]) fun _ _ _ _ _ _ us hl => match us, hl with | [_], _ => rfl
  have F_lessened := fun_mk (st := s_lessened) l_lessened c_lessened k_lessened
  have b_lessened := F_lessened.binds (ps := ["row", "steps", "p"]) fun _ _ _ _ _ _ us hl => match us, hl with | [_, _, _], _ => rfl
  have F_rank_of := fun_mk (st := s_rank_of) l_rank_of c_rank_of k_rank_of
  have b_rank_of := F_rank_of.binds (ps := ["rows", "p"]) fun _ _ _ _ _ _ us hl => match us, hl with | [_, _], _ => rfl
  have F_node_rank := fun_mk (st := s_node_rank) l_node_rank c_node_rank k_node_rank
  have b_node_rank := F_node_rank.binds (ps := ["net", "t"]) fun _ _ _ _ _ _ us hl => match us, hl with | [_, _], _ => rfl
  have F_steps_from := fun_mk (st := s_steps_from) l_steps_from c_steps_from k_steps_from
  have b_steps_from := F_steps_from.binds (ps := ["net", "t", "used"]) fun _ _ _ _ _ _ us hl => match us, hl with | [_, _, _], _ => rfl
  have F_reached := fun_mk (st := s_reached) l_reached c_reached k_reached
  have b_reached := F_reached.binds (ps := ["net", "used"]) fun _ _ _ _ _ _ us hl => match us, hl with | [_, _], _ => rfl
  have F_way_to := fun_mk (st := s_way_to) l_way_to c_way_to k_way_to
  have b_way_to := F_way_to.binds (ps := ["steps", "t"]) fun _ _ _ _ _ _ us hl => match us, hl with | [_, _], _ => rfl
  have F_with_way := fun_mk (st := s_with_way) l_with_way c_with_way k_with_way
  have b_with_way := F_with_way.binds (ps := ["used", "way"]) fun _ _ _ _ _ _ us hl => match us, hl with | [_, _], _ => rfl
  have F_node_cut := fun_mk (st := s_node_cut) l_node_cut c_node_cut k_node_cut
  have b_node_cut := F_node_cut.binds (ps := ["net", "t"]) fun _ _ _ _ _ _ us hl => match us, hl with | [_, _], _ => rfl
  have F_is_size := fun_mk (st := s_is_size) l_is_size c_is_size k_is_size
  have b_is_size := F_is_size.binds (ps := ["n", "p", "h"]) fun _ _ _ _ _ _ us hl => match us, hl with | [_, _, _], _ => rfl
  have F_put_line := fun_mk (st := s_put_line) l_put_line c_put_line k_put_line
  have b_put_line := F_put_line.binds (ps := ["net", "u", "v"]) fun _ _ _ _ _ _ us hl => match us, hl with | [_, _, _], _ => rfl
  have F_mix := fun_mk (st := s_mix) l_mix c_mix k_mix
  have b_mix := F_mix.binds (ps := ["net", "e", "d", "c"]) fun _ _ _ _ _ _ us hl => match us, hl with | [_, _, _, _], _ => rfl
  have F_tell_vector := fun_mk (st := s_tell_vector) l_tell_vector c_tell_vector k_tell_vector
  have b_tell_vector := F_tell_vector.binds (ps := ["net", "e", "most"]) fun _ _ _ _ _ _ us hl => match us, hl with | [_, _, _], _ => rfl
  have F_tell_rank := fun_mk (st := s_tell_rank) l_tell_rank c_tell_rank k_tell_rank
  have b_tell_rank := F_tell_rank.binds (ps := ["net", "t"]) fun _ _ _ _ _ _ us hl => match us, hl with | [_, _], _ => rfl
  have F_tell_cut := fun_mk (st := s_tell_cut) l_tell_cut c_tell_cut k_tell_cut
  have b_tell_cut := F_tell_cut.binds (ps := ["net", "t"]) fun _ _ _ _ _ _ us hl => match us, hl with | [_, _], _ => rfl
  have F_send := fun_mk (st := s_send) l_send c_send k_send
  have b_send := F_send.binds (ps := ["net", "e", "messages"]) fun _ _ _ _ _ _ us hl => match us, hl with | [_, _, _], _ => rfl
  have F_answered := fun_mk (st := s_answered) l_answered c_answered k_answered
  have b_answered := F_answered.binds (ps := ["net", "word", "numbers", "row"]) fun _ _ _ _ _ _ us hl => match us, hl with | [_, _, _, _], _ => rfl
  have F_call_at := fun_mk (st := s_call_at) l_call_at c_call_at k_call_at
  have b_call_at := F_call_at.binds (ps := ["calls", "at"]) fun _ _ _ _ _ _ us hl => match us, hl with | [_, _], _ => rfl
  have F_answers := fun_mk (st := s_answers) l_answers c_answers k_answers
  have F_amount := fun_mk (st := s_Line_amount) l_amount c_amount k_amount
  have b_amount := F_amount.binds (ps := ["self", "d"]) fun _ _ _ _ _ _ us hl => match us, hl with | [_, _], _ => rfl
  have F_has_node := fun_mk (st := s_Net_has_node) l_has_node c_has_node k_has_node
  have b_has_node := F_has_node.binds (ps := ["self", "t"]) fun _ _ _ _ _ _ us hl => match us, hl with | [_, _], _ => rfl
  have F_has_line := fun_mk (st := s_Net_has_line) l_has_line c_has_line k_has_line
  have b_has_line := F_has_line.binds (ps := ["self", "e"]) fun _ _ _ _ _ _ us hl => match us, hl with | [_, _], _ => rfl
  have F_lines_into := fun_mk (st := s_Net_lines_into) l_lines_into c_lines_into k_lines_into
  have b_lines_into := F_lines_into.binds (ps := ["self", "t"]) fun _ _ _ _ _ _ us hl => match us, hl with | [_, _], _ => rfl
  have F_lines_from := fun_mk (st := s_Net_lines_from) l_lines_from c_lines_from k_lines_from
  have b_lines_from := F_lines_from.binds (ps := ["self", "t"]) fun _ _ _ _ _ _ us hl => match us, hl with | [_, _], _ => rfl
  have F_is_part := fun_mk (st := s_Net_is_part) l_is_part c_is_part k_is_part
  have b_is_part := F_is_part.binds (ps := ["self", "e", "d"]) fun _ _ _ _ _ _ us hl => match us, hl with | [_, _, _], _ => rfl
  have F_done := fun_mk (st := s_Desk_done) l_done c_done k_done
  have b_done := F_done.binds (ps := ["self", "word", "numbers", "row"]) fun _ _ _ _ _ _ us hl => match us, hl with | [_, _, _, _], _ => rfl
  have F_Line := fun_mk (st := s_Line__init_) l_Line c_Line k_Line
  have b_Line := F_Line.binds (ps := ["self", "start", "goal"]) fun _ _ _ _ _ _ us hl => match us, hl with | [_, _, _], _ => rfl
  have F_Net := fun_mk (st := s_Net__init_) l_Net c_Net k_Net
  have b_Net := F_Net.binds (ps := ["self", "nodes", "p", "messages"]) fun _ _ _ _ _ _ us hl => match us, hl with | [_, _, _, _], _ => rfl
  have F_Desk := fun_mk (st := s_Desk__init_) l_Desk c_Desk k_Desk
  have b_Desk := F_Desk.binds (ps := ["self"]) fun _ _ _ _ _ _ us hl => match us, hl with | [_], _ => rfl
  refine ⟨PySem.W.fnOf "answers" "answers" (defArgs s_answers) (defBody s_answers) (defScope s_answers) .none kV_answers dc_answers pm_answers an_answers cd_answers ct_answers, fun s us hu => match us, hu with | [_], _ => .of_eq rfl, fun base _ _ => ?_⟩
  have D_Line : CDef P w K mg base cL "Line" 1 ["self", "start", "goal"] (sp_Line cL) := ⟨_, _, PySem.W.mg_of X G aLine, ⟨mkLine, a_Line, i_Line, kcLine⟩, b_Line, ok_Line F_Line T⟩
  have D_Net : CDef P w K mg base cN "Net" 1 ["self", "nodes", "p", "messages"] (sp_Net cN) := ⟨_, _, PySem.W.mg_of X G aNet, ⟨mkNet, a_Net, i_Net, kcNet⟩, b_Net, ok_Net F_Net T⟩
  have D_amount : MDef P w K mg base cL "amount" 1 ["self", "d"] (sp_amount cL) := ⟨_, _, ⟨a_amount, i_amount, k_amount⟩, b_amount, ok_amount F_amount T⟩
  have D_has_node : MDef P w K mg base cN "has_node" 1 ["self", "t"] (sp_has_node cL cN) := ⟨_, _, ⟨a_has_node, i_has_node, k_has_node⟩, b_has_node, ok_has_node F_has_node T⟩
  have D_has_line : MDef P w K mg base cN "has_line" 1 ["self", "e"] (sp_has_line cL cN) := ⟨_, _, ⟨a_has_line, i_has_line, k_has_line⟩, b_has_line, ok_has_line F_has_line T⟩
  have D_lines_into : MDef P w K mg base cN "lines_into" 1 ["self", "t"] (sp_lines_into cL cN) := ⟨_, _, ⟨a_lines_into, i_lines_into, k_lines_into⟩, b_lines_into, ok_lines_into F_lines_into T⟩
  have D_lines_from : MDef P w K mg base cN "lines_from" 1 ["self", "t"] (sp_lines_from cL cN) := ⟨_, _, ⟨a_lines_from, i_lines_from, k_lines_from⟩, b_lines_from, ok_lines_from F_lines_from T⟩
  have D_is_part : MDef P w K mg base cN "is_part" 2 ["self", "e", "d"] (sp_is_part cL cN) := ⟨_, _, ⟨a_is_part, i_is_part, k_is_part⟩, b_is_part, ok_is_part F_is_part T D_lines_into⟩
  have D_is_prime : Def P w K mg base "is_prime" 1 ["number"] sp_is_prime := ⟨_, _, PySem.W.mg_of X G a_is_prime, k_is_prime, b_is_prime, ok_is_prime F_is_prime T⟩
  have D_inverse_of : Def P w K mg base "inverse_of" 1 ["number", "p"] sp_inverse_of := ⟨_, _, PySem.W.mg_of X G a_inverse_of, k_inverse_of, b_inverse_of, ok_inverse_of F_inverse_of T⟩
  have D_added : Def P w K mg base "added" 1 ["one", "other", "times", "p"] sp_added := ⟨_, _, PySem.W.mg_of X G a_added, k_added, b_added, ok_added F_added T⟩
  have D_vector_from_messages : Def P w K mg base "vector_from_messages" 2 ["net", "line"] (sp_vector_from_messages cL cN) := ⟨_, _, PySem.W.mg_of X G a_vector_from_messages, k_vector_from_messages, b_vector_from_messages, ok_vector_from_messages F_vector_from_messages T D_amount⟩
  have D_vector_from_lines : Def P w K mg base "vector_from_lines" 2 ["net", "line", "told"] (sp_vector_from_lines cL cN) := ⟨_, _, PySem.W.mg_of X G a_vector_from_lines, k_vector_from_lines, b_vector_from_lines, ok_vector_from_lines F_vector_from_lines T D_amount D_lines_into D_added⟩
  have D_all_vectors : Def P w K mg base "all_vectors" 3 ["net"] (sp_all_vectors cL cN) := ⟨_, _, PySem.W.mg_of X G a_all_vectors, k_all_vectors, b_all_vectors, ok_all_vectors F_all_vectors T D_lines_from D_vector_from_lines D_vector_from_messages⟩
  have D_vector_of : Def P w K mg base "vector_of" 4 ["net", "e"] (sp_vector_of cL cN) := ⟨_, _, PySem.W.mg_of X G a_vector_of, k_vector_of, b_vector_of, ok_vector_of F_vector_of T D_all_vectors⟩
  have D_carried : Def P w K mg base "carried" 5 ["net", "e", "messages"] (sp_carried cL cN) := ⟨_, _, PySem.W.mg_of X G a_carried, k_carried, b_carried, ok_carried F_carried T D_vector_of⟩
  have D_first_place : Def P w K mg base "first_place" 1 ["row"] sp_first_place := ⟨_, _, PySem.W.mg_of X G a_first_place, k_first_place, b_first_place, ok_first_place F_first_place T⟩
  have D_lessened : Def P w K mg base "lessened" 2 ["row", "steps", "p"] sp_lessened := ⟨_, _, PySem.W.mg_of X G a_lessened, k_lessened, b_lessened, ok_lessened F_lessened T D_added⟩
  have D_rank_of : Def P w K mg base "rank_of" 3 ["rows", "p"] sp_rank_of := ⟨_, _, PySem.W.mg_of X G a_rank_of, k_rank_of, b_rank_of, ok_rank_of F_rank_of T D_added D_first_place D_inverse_of D_lessened⟩
  have D_node_rank : Def P w K mg base "node_rank" 4 ["net", "t"] (sp_node_rank cL cN) := ⟨_, _, PySem.W.mg_of X G a_node_rank, k_node_rank, b_node_rank, ok_node_rank F_node_rank T D_lines_into D_all_vectors D_rank_of⟩
  have D_steps_from : Def P w K mg base "steps_from" 2 ["net", "t", "used"] (sp_steps_from cL cN) := ⟨_, _, PySem.W.mg_of X G a_steps_from, k_steps_from, b_steps_from, ok_steps_from F_steps_from T D_lines_into D_lines_from⟩
  have D_reached : Def P w K mg base "reached" 3 ["net", "used"] (sp_reached cL cN) := ⟨_, _, PySem.W.mg_of X G a_reached, k_reached, b_reached, ok_reached F_reached D_steps_from⟩
  have D_way_to : Def P w K mg base "way_to" 1 ["steps", "t"] sp_way_to := ⟨_, _, PySem.W.mg_of X G a_way_to, k_way_to, b_way_to, ok_way_to F_way_to⟩
  have D_with_way : Def P w K mg base "with_way" 1 ["used", "way"] sp_with_way := ⟨_, _, PySem.W.mg_of X G a_with_way, k_with_way, b_with_way, ok_with_way F_with_way T⟩
  have D_node_cut : Def P w K mg base "node_cut" 4 ["net", "t"] (sp_node_cut cL cN) := ⟨_, _, PySem.W.mg_of X G a_node_cut, k_node_cut, b_node_cut, ok_node_cut F_node_cut D_reached D_way_to D_with_way⟩
  have D_is_size : Def P w K mg base "is_size" 2 ["n", "p", "h"] sp_is_size := ⟨_, _, PySem.W.mg_of X G a_is_size, k_is_size, b_is_size, ok_is_size F_is_size T D_is_prime⟩
  have D_put_line : Def P w K mg base "put_line" 3 ["net", "u", "v"] (sp_put_line cL cN) := ⟨_, _, PySem.W.mg_of X G a_put_line, k_put_line, b_put_line, ok_put_line F_put_line T D_has_node D_Line⟩
  have D_mix : Def P w K mg base "mix" 3 ["net", "e", "d", "c"] (sp_mix cL cN) := ⟨_, _, PySem.W.mg_of X G a_mix, k_mix, b_mix, ok_mix F_mix T D_has_line D_is_part⟩
  have D_tell_vector : Def P w K mg base "tell_vector" 5 ["net", "e", "most"] (sp_tell_vector cL cN) := ⟨_, _, PySem.W.mg_of X G a_tell_vector, k_tell_vector, b_tell_vector, ok_tell_vector F_tell_vector T D_has_line D_vector_of⟩
  have D_tell_rank : Def P w K mg base "tell_rank" 5 ["net", "t"] (sp_tell_rank cL cN) := ⟨_, _, PySem.W.mg_of X G a_tell_rank, k_tell_rank, b_tell_rank, ok_tell_rank F_tell_rank T D_has_node D_node_rank⟩
  have D_tell_cut : Def P w K mg base "tell_cut" 5 ["net", "t"] (sp_tell_cut cL cN) := ⟨_, _, PySem.W.mg_of X G a_tell_cut, k_tell_cut, b_tell_cut, ok_tell_cut F_tell_cut T D_has_node D_node_cut⟩
  have D_send : Def P w K mg base "send" 6 ["net", "e", "messages"] (sp_send cL cN) := ⟨_, _, PySem.W.mg_of X G a_send, k_send, b_send, ok_send F_send T D_has_line D_carried⟩
  have D_answered : Def P w K mg base "answered" 7 ["net", "word", "numbers", "row"] (sp_answered cL cN) := ⟨_, _, PySem.W.mg_of X G a_answered, k_answered, b_answered, ok_answered F_answered T D_put_line D_mix D_tell_vector D_tell_rank D_tell_cut D_send⟩
  have D_call_at : Def P w K mg base "call_at" 1 ["calls", "at"] (sp_call_at K) := ⟨_, _, PySem.W.mg_of X G a_call_at, k_call_at, b_call_at, ok_call_at F_call_at T⟩
  have D_done : MDef P w K mg base cD "done" 8 ["self", "word", "numbers", "row"] (sp_done cL cN cD) := ⟨_, _, ⟨a_done, i_done, k_done⟩, b_done, ok_done F_done T D_Net D_answered D_is_size⟩
  have D_Desk : CDef P w K mg base cD "Desk" 3 ["self"] (sp_Desk cL cN cD) := ⟨_, _, PySem.W.mg_of X G aDesk, ⟨mkDesk, a_Desk, i_Desk, kcDesk⟩, b_Desk, ok_Desk F_Desk T D_Net⟩
  exact ok_answers F_answers T D_Desk D_done D_call_at
end NM
open PySem PySem.W PyProof.Rows
set_option maxRecDepth 100000 in
set_option maxHeartbeats 8000000 in
theorem PySem.Challenge.cw_netmix_s01_answers_holds : PySem.Challenge.rw_netmix_s01_answers.Holds := by
  w_on; k_headS; (case hw => exact ⟨[.list []], by decide +kernel, by decide +kernel⟩)
  k_fillS
  refine L2.walk_specK (r := PySem.Challenge.rw_netmix_s01_answers) (k := 9) (CX := L2.CX0) (ps := ["calls"]) (sp := NM.sp_answers) (by decide +kernel) rfl rfl ⟨rfl, by decide, by decide⟩ (fun w h Y => PySem.W.kIn_of Y) ?F ?S (fun _ _ _ _ z => z)
  case F =>
    intro w mg fa h Y KX G hmg
    refine' NM.all_mk KX G hmg ?aLine ?aNet ?aDesk ?a_is_prime ?l_is_prime ?c_is_prime ?k_is_prime ?a_inverse_of ?l_inverse_of ?c_inverse_of ?k_inverse_of ?a_added ?l_added ?c_added ?k_added ?a_vector_from_messages ?l_vector_from_messages ?c_vector_from_messages ?k_vector_from_messages ?a_vector_from_lines ?l_vector_from_lines ?c_vector_from_lines ?k_vector_from_lines ?a_all_vectors ?l_all_vectors ?c_all_vectors ?k_all_vectors ?a_vector_of ?l_vector_of ?c_vector_of ?k_vector_of ?a_carried ?l_carried ?c_carried ?k_carried ?a_first_place ?l_first_place ?c_first_place ?k_first_place ?a_lessened ?l_lessened ?c_lessened ?k_lessened ?a_rank_of ?l_rank_of ?c_rank_of ?k_rank_of ?a_node_rank ?l_node_rank ?c_node_rank ?k_node_rank ?a_steps_from ?l_steps_from ?c_steps_from ?k_steps_from ?a_reached ?l_reached ?c_reached ?k_reached ?a_way_to ?l_way_to ?c_way_to ?k_way_to ?a_with_way ?l_with_way ?c_with_way ?k_with_way ?a_node_cut ?l_node_cut ?c_node_cut ?k_node_cut ?a_is_size ?l_is_size ?c_is_size ?k_is_size ?a_put_line ?l_put_line ?c_put_line ?k_put_line ?a_mix ?l_mix ?c_mix ?k_mix ?a_tell_vector ?l_tell_vector ?c_tell_vector ?k_tell_vector ?a_tell_rank ?l_tell_rank ?c_tell_rank ?k_tell_rank ?a_tell_cut ?l_tell_cut ?c_tell_cut ?k_tell_cut ?a_send ?l_send ?c_send ?k_send ?a_answered ?l_answered ?c_answered ?k_answered ?a_call_at ?l_call_at ?c_call_at ?k_call_at ?a_answers ?l_answers ?c_answers ?k_answers ?a_amount ?i_amount ?l_amount ?c_amount ?k_amount ?a_has_node ?i_has_node ?l_has_node ?c_has_node ?k_has_node ?a_has_line ?i_has_line ?l_has_line ?c_has_line ?k_has_line ?a_lines_into ?i_lines_into ?l_lines_into ?c_lines_into ?k_lines_into ?a_lines_from ?i_lines_from ?l_lines_from ?c_lines_from ?k_lines_from ?a_is_part ?i_is_part ?l_is_part ?c_is_part ?k_is_part ?a_done ?i_done ?l_done ?c_done ?k_done ?a_Line ?i_Line ?l_Line ?c_Line ?k_Line ?pgLine ?hdLine ?poLine ?saLine ?mkLine ?kcLine ?a_Net ?i_Net ?l_Net ?c_Net ?k_Net ?pgNet ?hdNet ?poNet ?saNet ?mkNet ?kcNet ?a_Desk ?i_Desk ?l_Desk ?c_Desk ?k_Desk ?pgDesk ?hdDesk ?poDesk ?saDesk ?mkDesk ?kcDesk ?n_start ?n_goal ?n_amounts ?n_nodes ?n_p ?n_messages ?n_lines ?n_net ?z_len ?z_all ?z_sum ?z_dict ?z_range ?z_enumerate ?z_zip ?y_MOST_NODES ?y_MOST_LINES ?y_MOST_MESSAGES ?y_LEAST_PRIME ?y_GREATEST_PRIME ?y_DONE ?y_REFUSED ?y_FULL ?y_BEGIN ?y_SIZE ?y_LINE ?y_MIX ?y_VECTOR ?y_RANK ?y_CUT ?y_SEND ?aNum ?lNum
    (case aLine => k_is)
    (case aNet => k_is)
    (case aDesk => k_is)
    (case a_is_prime => k_is)
    (case l_is_prime => k_is)
    (case c_is_prime => k_is)
    (case k_is_prime => k_is)
    (case a_inverse_of => k_is)
    (case l_inverse_of => k_is)
    (case c_inverse_of => k_is)
    (case k_inverse_of => k_is)
    (case a_added => k_is)
    (case l_added => k_is)
    (case c_added => k_is)
    (case k_added => k_is)
    (case a_vector_from_messages => k_is)
    (case l_vector_from_messages => k_is)
    (case c_vector_from_messages => k_is)
    (case k_vector_from_messages => k_is)
    (case a_vector_from_lines => k_is)
    (case l_vector_from_lines => k_is)
    (case c_vector_from_lines => k_is)
    (case k_vector_from_lines => k_is)
    (case a_all_vectors => k_is)
    (case l_all_vectors => k_is)
    (case c_all_vectors => k_is)
    (case k_all_vectors => k_is)
    (case a_vector_of => k_is)
    (case l_vector_of => k_is)
    (case c_vector_of => k_is)
    (case k_vector_of => k_is)
    (case a_carried => k_is)
    (case l_carried => k_is)
    (case c_carried => k_is)
    (case k_carried => k_is)
    (case a_first_place => k_is)
    (case l_first_place => k_is)
    (case c_first_place => k_is)
    (case k_first_place => k_is)
    (case a_lessened => k_is)
    (case l_lessened => k_is)
    (case c_lessened => k_is)
    (case k_lessened => k_is)
    (case a_rank_of => k_is)
    (case l_rank_of => k_is)
    (case c_rank_of => k_is)
    (case k_rank_of => k_is)
    (case a_node_rank => k_is)
    (case l_node_rank => k_is)
    (case c_node_rank => k_is)
    (case k_node_rank => k_is)
    (case a_steps_from => k_is)
    (case l_steps_from => k_is)
    (case c_steps_from => k_is)
    (case k_steps_from => k_is)
    (case a_reached => k_is)
    (case l_reached => k_is)
    (case c_reached => k_is)
    (case k_reached => k_is)
    (case a_way_to => k_is)
    (case l_way_to => k_is)
    (case c_way_to => k_is)
    (case k_way_to => k_is)
    (case a_with_way => k_is)
    (case l_with_way => k_is)
    (case c_with_way => k_is)
    (case k_with_way => k_is)
    (case a_node_cut => k_is)
    (case l_node_cut => k_is)
    (case c_node_cut => k_is)
    (case k_node_cut => k_is)
    (case a_is_size => k_is)
    (case l_is_size => k_is)
    (case c_is_size => k_is)
    (case k_is_size => k_is)
    (case a_put_line => k_is)
    (case l_put_line => k_is)
    (case c_put_line => k_is)
    (case k_put_line => k_is)
    (case a_mix => k_is)
    (case l_mix => k_is)
    (case c_mix => k_is)
    (case k_mix => k_is)
    (case a_tell_vector => k_is)
    (case l_tell_vector => k_is)
    (case c_tell_vector => k_is)
    (case k_tell_vector => k_is)
    (case a_tell_rank => k_is)
    (case l_tell_rank => k_is)
    (case c_tell_rank => k_is)
    (case k_tell_rank => k_is)
    (case a_tell_cut => k_is)
    (case l_tell_cut => k_is)
    (case c_tell_cut => k_is)
    (case k_tell_cut => k_is)
    (case a_send => k_is)
    (case l_send => k_is)
    (case c_send => k_is)
    (case k_send => k_is)
    (case a_answered => k_is)
    (case l_answered => k_is)
    (case c_answered => k_is)
    (case k_answered => k_is)
    (case a_call_at => k_is)
    (case l_call_at => k_is)
    (case c_call_at => k_is)
    (case k_call_at => k_is)
    (case a_answers => k_is)
    (case l_answers => k_is)
    (case c_answers => k_is)
    (case k_answers => k_is)
    (case a_amount => k_is)
    (case i_amount => k_is)
    (case l_amount => k_is)
    (case c_amount => k_is)
    (case k_amount => k_is)
    (case a_has_node => k_is)
    (case i_has_node => k_is)
    (case l_has_node => k_is)
    (case c_has_node => k_is)
    (case k_has_node => k_is)
    (case a_has_line => k_is)
    (case i_has_line => k_is)
    (case l_has_line => k_is)
    (case c_has_line => k_is)
    (case k_has_line => k_is)
    (case a_lines_into => k_is)
    (case i_lines_into => k_is)
    (case l_lines_into => k_is)
    (case c_lines_into => k_is)
    (case k_lines_into => k_is)
    (case a_lines_from => k_is)
    (case i_lines_from => k_is)
    (case l_lines_from => k_is)
    (case c_lines_from => k_is)
    (case k_lines_from => k_is)
    (case a_is_part => k_is)
    (case i_is_part => k_is)
    (case l_is_part => k_is)
    (case c_is_part => k_is)
    (case k_is_part => k_is)
    (case a_done => k_is)
    (case i_done => k_is)
    (case l_done => k_is)
    (case c_done => k_is)
    (case k_done => k_is)
    (case a_Line => k_is)
    (case i_Line => k_is)
    (case l_Line => k_is)
    (case c_Line => k_is)
    (case k_Line => k_is)
    (case pgLine => k_is)
    (case hdLine => k_is)
    (case poLine => k_is)
    (case saLine => k_is)
    (case mkLine => k_is)
    (case kcLine => k_is)
    (case a_Net => k_is)
    (case i_Net => k_is)
    (case l_Net => k_is)
    (case c_Net => k_is)
    (case k_Net => k_is)
    (case pgNet => k_is)
    (case hdNet => k_is)
    (case poNet => k_is)
    (case saNet => k_is)
    (case mkNet => k_is)
    (case kcNet => k_is)
    (case a_Desk => k_is)
    (case i_Desk => k_is)
    (case l_Desk => k_is)
    (case c_Desk => k_is)
    (case k_Desk => k_is)
    (case pgDesk => k_is)
    (case hdDesk => k_is)
    (case poDesk => k_is)
    (case saDesk => k_is)
    (case mkDesk => k_is)
    (case kcDesk => k_is)
    (case n_start => k_is)
    (case n_goal => k_is)
    (case n_amounts => k_is)
    (case n_nodes => k_is)
    (case n_p => k_is)
    (case n_messages => k_is)
    (case n_lines => k_is)
    (case n_net => k_is)
    (case z_len => k_is)
    (case z_all => k_is)
    (case z_sum => k_is)
    (case z_dict => k_is)
    (case z_range => k_is)
    (case z_enumerate => k_is)
    (case z_zip => k_is)
    (case y_MOST_NODES => k_is)
    (case y_MOST_LINES => k_is)
    (case y_MOST_MESSAGES => k_is)
    (case y_LEAST_PRIME => k_is)
    (case y_GREATEST_PRIME => k_is)
    (case y_DONE => k_is)
    (case y_REFUSED => k_is)
    (case y_FULL => k_is)
    (case y_BEGIN => k_is)
    (case y_SIZE => k_is)
    (case y_LINE => k_is)
    (case y_MIX => k_is)
    (case y_VECTOR => k_is)
    (case y_RANK => k_is)
    (case y_CUT => k_is)
    (case y_SEND => k_is)
    (case aNum => k_is)
    (case lNum => k_is)
  case S =>
    intro K H xs a hO hwi hask hx
    cases hx with
    | cons h1 h2 =>
      cases h2
      cases h1 with
      | lst hs ha =>
        have e := L2.ints_dw a.1 _ ha
        subst e
        have q : ((Codec.inLen 0 30000 a.1 && a.1.all (Codec.inInt (-2147483648) 2147483647)) && true) = true := hwi
        rw [Bool.and_eq_true, Bool.and_eq_true] at q
        exact ⟨_, a.1, rfl, hs, (Codec.inNat_iff.mp q.1.1).2, hask, fun H' p hp => .lst (L2.SqL.of hp) (L2.dw_ints _)⟩
#print axioms PySem.Challenge.cw_netmix_s01_answers_holds
