import PyProof.Rows.All
import Wide.All
import OpenK.AllK
import Wide.FinOn
import HandS.ForMost
import HandS.IsInst
import HandS.RevRange
import HandS.Style
import HandS.TupAny
import HandS.More
import HandS.Evl
import HandS.Walk
import HandS.Zip
import KE.KTupSum
import KE.DatumOrd
import KE.GoesNew
import PySem.Challenge.RW_stampgaps_k96_whole_breakings
set_option Elab.async false
set_option linter.all false
set_option maxRecDepth 100000
set_option maxHeartbeats 8000000
/-! Plain mathematics: widths, joined words, breakings, prices, greedy lines. -/
namespace K96
section width
variable (sw : Nat → Int) (bt : Nat → Nat → Int)

/-- how wide a text is -/
def W : List Nat → Int
  | [] => 0
  | [c] => sw c
  | c :: d :: r => sw c + bt c d + W (d :: r)

/-- where the i-th sign begins -/
def bg (t : List Nat) : Nat → Int
  | 0 => 0
  | i + 1 => bg t i + sw (t.getD i 0) + bt (t.getD i 0) (t.getD (i + 1) 0)

theorem bg_cons (c : Nat) (t : List Nat) : ∀ i, bg sw bt (c :: t) (i + 1) = sw c + bt c (t.getD 0 0) + bg sw bt t i
  | 0 => by simp [bg]
  | i + 1 => by
    have ih := bg_cons c t i
    rw [bg, ih, bg]
    simp only [List.getD_cons_succ]
    omega

theorem W_bg : ∀ t : List Nat, t ≠ [] → W sw bt t = bg sw bt t (t.length - 1) + sw (t.getD (t.length - 1) 0)
  | [], h => absurd rfl h
  | [c], _ => by simp [W, bg]
  | c :: d :: r, _ => by
    have ih := W_bg (d :: r) (by simp)
    have e : (c :: d :: r).length - 1 = ((d :: r).length - 1) + 1 := by simp
    rw [e, bg_cons, W, ih]
    simp only [List.getD_cons_succ, List.getD_cons_zero]
    omega

theorem W_cons2 (c d : Nat) (r : List Nat) : W sw bt (c :: d :: r) = sw c + bt c d + W sw bt (d :: r) := rfl

/-- a text, a sign without gaps, a text -/
theorem W_app (b : Nat) (h1 : ∀ c, bt c b = 0) (h2 : ∀ c, bt b c = 0) (v : List Nat) (hv : v ≠ []) : ∀ u : List Nat, u ≠ [] → W sw bt (u ++ b :: v) = W sw bt u + sw b + W sw bt v
  | [], h => absurd rfl h
  | [c], _ => by
    cases v with
    | nil => exact absurd rfl hv
    | cons d r =>
      show sw c + bt c b + (sw b + bt b d + W sw bt (d :: r)) = _
      rw [h1, h2]
      simp [W]; omega
  | c :: d :: r, _ => by
    have ih := W_app b h1 h2 v hv (d :: r) (by simp)
    show sw c + bt c d + W sw bt (d :: r ++ b :: v) = _
    rw [ih, W_cons2]
    omega

/-- by sums -/
theorem W_sums : ∀ t : List Nat, W sw bt t = (t.map sw).sum + ((t.zip t.tail).map fun p => bt p.1 p.2).sum
  | [] => by simp [W]
  | [c] => by simp [W]
  | c :: d :: r => by
    have ih := W_sums (d :: r)
    rw [W_cons2, ih]
    simp only [List.map_cons, List.sum_cons, List.tail_cons, List.zip_cons_cons]
    omega

theorem W_low (lo g : Int) (t : List Nat) (h1 : ∀ c ∈ t, lo ≤ sw c) (h2 : ∀ c ∈ t, ∀ d ∈ t, -g ≤ bt c d) (h3 : g ≤ lo) : t ≠ [] → lo ≤ W sw bt t := by
  induction t with
  | nil => intro h; exact absurd rfl h
  | cons c r ih =>
    intro _
    cases r with
    | nil => exact h1 c (by simp)
    | cons d r =>
      have := ih (fun x hx => h1 x (List.mem_cons_of_mem _ hx)) (fun x hx y hy => h2 x (List.mem_cons_of_mem _ hx) y (List.mem_cons_of_mem _ hy)) (by simp)
      have a := h1 c (by simp)
      have b := h2 c (by simp) d (by simp)
      rw [W_cons2]
      omega
end width
end K96
namespace K96
/-! ### prices -/
/-- the least over the first k ends; c: what a line to the k-th end costs -/
def best (c : Nat → Option Int) (q : List Int) : Nat → Option Int
  | 0 => none
  | k + 1 => match c k with
    | none => best c q k
    | some x => match best c q k with
      | none => some (x + q.getD k 0)
      | some b => if x + q.getD k 0 < b then some (x + q.getD k 0) else some b

theorem best_none {c : Nat → Option Int} {q : List Int} {k : Nat} (h : c k = none) : best c q (k + 1) = best c q k := by
  simp only [best, h]
theorem best_first {c : Nat → Option Int} {q : List Int} {k : Nat} {x : Int} (h : c k = some x) (hb : best c q k = none) : best c q (k + 1) = some (x + q.getD k 0) := by
  simp only [best, h, hb]
theorem best_less {c : Nat → Option Int} {q : List Int} {k : Nat} {x b : Int} (h : c k = some x) (hb : best c q k = some b) (hl : x + q.getD k 0 < b) : best c q (k + 1) = some (x + q.getD k 0) := by
  simp only [best, h, hb, if_pos hl]
theorem best_more {c : Nat → Option Int} {q : List Int} {k : Nat} {x b : Int} (h : c k = some x) (hb : best c q k = some b) (hl : ¬ x + q.getD k 0 < b) : best c q (k + 1) = some b := by
  simp only [best, h, hb, if_neg hl]

theorem best_mem {c : Nat → Option Int} {q : List Int} : ∀ {K : Nat} {b : Int}, best c q K = some b → ∃ k x, k < K ∧ c k = some x ∧ b = x + q.getD k 0
  | 0, b, h => by simp [best] at h
  | K + 1, b, h => by
    have up : (∃ k x, k < K ∧ c k = some x ∧ b = x + q.getD k 0) → ∃ k x, k < K + 1 ∧ c k = some x ∧ b = x + q.getD k 0 := fun ⟨k, x, h1, h2⟩ => ⟨k, x, by omega, h2⟩
    cases hc : c K with
    | none => rw [best_none hc] at h; exact up (best_mem h)
    | some x =>
      cases hb : best c q K with
      | none =>
        rw [best_first hc hb] at h
        exact ⟨K, x, by omega, hc, (Option.some.inj h).symm⟩
      | some y =>
        by_cases hl : x + q.getD K 0 < y
        · rw [best_less hc hb hl] at h
          exact ⟨K, x, by omega, hc, (Option.some.inj h).symm⟩
        · rw [best_more hc hb hl] at h
          have e := Option.some.inj h
          subst e
          exact up (best_mem hb)
theorem best_le {c : Nat → Option Int} {q : List Int} : ∀ {K k : Nat} {x : Int}, k < K → c k = some x → ∃ b, best c q K = some b ∧ b ≤ x + q.getD k 0
  | 0, k, x, h, _ => by omega
  | K + 1, k, x, h, hk => by
    by_cases e : k = K
    · subst e
      cases hb : best c q k with
      | none => exact ⟨_, best_first hk hb, Int.le_refl _⟩
      | some y =>
        by_cases hl : x + q.getD k 0 < y
        · exact ⟨_, best_less hk hb hl, Int.le_refl _⟩
        · exact ⟨_, best_more hk hb hl, by omega⟩
    · obtain ⟨b, h1, h2⟩ := best_le (q := q) (show k < K by omega) hk
      cases hc : c K with
      | none => exact ⟨b, by rw [best_none hc]; exact h1, h2⟩
      | some z =>
        by_cases hl : z + q.getD K 0 < b
        · exact ⟨_, best_less hc h1 hl, by omega⟩
        · exact ⟨_, best_more hc h1 hl, h2⟩

/-- the prices of the last m words -/
def prices (C : Nat → Nat → Option Int) (n : Nat) : Nat → List Int
  | 0 => [0]
  | m + 1 => ((best (fun k => C (n - (m + 1)) (n - (m + 1) + 1 + k)) (prices C n m) (m + 1)).getD 0) :: prices C n m
section price
variable (C : Nat → Nat → Option Int) (n : Nat)
theorem prices_len : ∀ m, (prices C n m).length = m + 1
  | 0 => rfl
  | m + 1 => by rw [prices, List.length_cons, prices_len m]
/-- the price of what stands from word i on -/
def P (i : Nat) : Int := (prices C n n).getD i 0
theorem prices_sub (m : Nat) : ∀ d k, (prices C n (m + d)).getD (d + k) 0 = (prices C n m).getD k 0
  | 0, k => by simp
  | d + 1, k => by
    have e : d + 1 + k = (d + k) + 1 := by omega
    rw [show m + (d + 1) = (m + d) + 1 by omega, prices, e, List.getD_cons_succ]
    exact prices_sub m d k
theorem P_at {m k : Nat} (h : m ≤ n) : (prices C n m).getD k 0 = P C n (n - m + k) := by
  have := prices_sub C n m (n - m) k
  rw [show m + (n - m) = n by omega] at this
  exact this.symm
theorem P_last : P C n n = 0 := by
  have := P_at C n (m := 0) (k := 0) (Nat.zero_le _)
  simp [prices] at this
  exact this.symm
theorem P_best {i : Nat} (h : i < n) : P C n i = (best (fun k => C i (i + 1 + k)) (prices C n (n - i - 1)) (n - i)).getD 0 := by
  have h2 := P_at C n (m := n - i) (k := 0) (by omega)
  rw [show n - (n - i) + 0 = i by omega] at h2
  rw [← h2, show n - i = (n - i - 1) + 1 by omega, prices, List.getD_cons_zero, show n - (n - i - 1 + 1) = i by omega, show n - i - 1 + 1 - 1 = n - i - 1 by omega]
variable {C n}
theorem P_le {i j : Nat} {x : Int} (h1 : i < j) (h2 : j ≤ n) (h : C i j = some x) : P C n i ≤ x + P C n j := by
  obtain ⟨b, e, hb⟩ := best_le (c := fun k => C i (i + 1 + k)) (q := prices C n (n - i - 1)) (K := n - i) (k := j - i - 1) (x := x) (by omega) (by show C i (i + 1 + (j - i - 1)) = some x; rw [show i + 1 + (j - i - 1) = j by omega]; exact h)
  rw [P_best C n (by omega), e, Option.getD_some]
  rw [P_at C n (by omega), show n - (n - i - 1) + (j - i - 1) = j by omega] at hb
  exact hb
theorem P_eq {i : Nat} (h1 : i < n) (h : (C i (i + 1)).isSome = true) : ∃ j x, i < j ∧ j ≤ n ∧ C i j = some x ∧ P C n i = x + P C n j := by
  obtain ⟨y, hy⟩ := Option.isSome_iff_exists.mp h
  obtain ⟨b, e, _⟩ := best_le (c := fun k => C i (i + 1 + k)) (q := prices C n (n - i - 1)) (K := n - i) (k := 0) (x := y) (by omega) hy
  obtain ⟨k, x, hk, hx, eb⟩ := best_mem e
  refine ⟨i + 1 + k, x, by omega, by omega, hx, ?_⟩
  rw [P_best C n h1, e, Option.getD_some, eb, P_at C n (by omega), show n - (n - i - 1) + k = i + 1 + k by omega]
end price

/-! ### breakings -/
/-- from word i, by the ends js, to word k -/
def Br (F : Nat → Nat → Prop) : Nat → List Nat → Nat → Prop
  | i, [], k => i = k
  | i, j :: r, k => i < j ∧ F i j ∧ Br F j r k
/-- .. each line so full that the next word does not fit -/
def Gr (F : Nat → Nat → Prop) : Nat → List Nat → Nat → Prop
  | i, [], k => i = k
  | i, j :: r, k => i < j ∧ F i j ∧ ¬ F i (j + 1) ∧ Gr F j r k
section br
variable {F : Nat → Nat → Prop}
theorem Br.le : ∀ {js : List Nat} {i k : Nat}, Br F i js k → i ≤ k
  | [], _, _, h => Nat.le_of_eq h
  | _ :: _, _, _, ⟨h1, _, h2⟩ => Nat.le_trans (Nat.le_of_lt h1) (Br.le h2)
theorem Gr.br : ∀ {js : List Nat} {i k : Nat}, Gr F i js k → Br F i js k
  | [], _, _, h => h
  | _ :: _, _, _, ⟨h1, h2, _, h3⟩ => ⟨h1, h2, Gr.br h3⟩
theorem Br.snoc : ∀ {js : List Nat} {i k j : Nat}, Br F i js k → k < j → F k j → Br F i (js ++ [j]) j
  | [], _, _, _, h, h1, h2 => by cases (show _ = _ from h); exact ⟨h1, h2, rfl⟩
  | _ :: _, _, _, _, ⟨a, b, c⟩, h1, h2 => ⟨a, b, Br.snoc c h1 h2⟩
theorem Gr.snoc : ∀ {js : List Nat} {i k j : Nat}, Gr F i js k → k < j → F k j → ¬ F k (j + 1) → Gr F i (js ++ [j]) j
  | [], _, _, _, h, h1, h2, h3 => by cases (show _ = _ from h); exact ⟨h1, h2, h3, rfl⟩
  | _ :: _, _, _, _, ⟨a, b, c, d⟩, h1, h2, h3 => ⟨a, b, c, Gr.snoc d h1 h2 h3⟩
/-- the full lines are no more than any -/
theorem Gr.few {n : Nat} (mono : ∀ i i' j b, i' ≤ i → i < j → j ≤ b → b ≤ n → F i' b → F i j) : ∀ {js : List Nat} {i k : Nat}, Gr F i js k → k < n → ∀ {bs : List Nat} {i' : Nat}, i' ≤ i → Br F i' bs n → js.length + 1 ≤ bs.length
  | [], i, k, h, hk, bs, i', hi, hb => by
    cases (show i = k from h)
    cases bs with
    | nil => exact absurd (show i' = n from hb) (by omega)
    | cons b s => simp
  | j :: r, i, k, ⟨h1, h2, h3, h4⟩, hk, bs, i', hi, hb => by
    have hjk := Br.le (Gr.br h4)
    cases bs with
    | nil => exact absurd (show i' = n from hb) (by omega)
    | cons b s =>
      obtain ⟨a1, a2, a3⟩ := hb
      have hbn := Br.le a3
      have hbj : b ≤ j := by
        by_cases q : b ≤ j
        · exact q
        · exact absurd (mono i i' (j + 1) b hi (by omega) (by omega) hbn a2) h3
      have := Gr.few mono h4 hk hbj a3
      simp only [List.length_cons]
      omega
end br

/-- what a breaking costs -/
def bc (C : Nat → Nat → Option Int) : Nat → List Nat → Int
  | _, [] => 0
  | i, j :: r => (C i j).getD 0 + bc C j r
theorem bc_snoc (C : Nat → Nat → Option Int) {F : Nat → Nat → Prop} : ∀ {js : List Nat} {i k : Nat} (j : Nat), Br F i js k → bc C i (js ++ [j]) = bc C i js + (C k j).getD 0
  | [], _, _, j, h => by cases (show _ = _ from h); simp [bc]
  | a :: r, i, k, j, ⟨_, _, h⟩ => by
    show (C i a).getD 0 + bc C a (r ++ [j]) = (C i a).getD 0 + bc C a r + (C k j).getD 0
    rw [bc_snoc C j h]
    omega
abbrev Fit (C : Nat → Nat → Option Int) (i j : Nat) : Prop := (C i j).isSome = true
theorem P_low {C : Nat → Nat → Option Int} {n : Nat} : ∀ {js : List Nat} {i : Nat}, Br (Fit C) i js n → P C n i ≤ bc C i js
  | [], i, h => by cases (show i = n from h); rw [P_last]; exact Int.le_refl _
  | j :: r, i, ⟨h1, h2, h3⟩ => by
    obtain ⟨x, hx⟩ := Option.isSome_iff_exists.mp h2
    have a := P_le (n := n) h1 (Br.le h3) hx
    have b := P_low h3
    show P C n i ≤ (C i j).getD 0 + bc C j r
    rw [hx, Option.getD_some]
    omega
end K96
namespace K96
/-- words with one blank between -/
def jn : List (List Nat) → List Nat
  | [] => []
  | [p] => p
  | p :: q :: r => p ++ 32 :: jn (q :: r)
theorem jn_ne : ∀ {ps : List (List Nat)}, ps ≠ [] → (∀ p ∈ ps, p ≠ []) → jn ps ≠ []
  | [], h, _ => absurd rfl h
  | [p], _, h => h p (by simp)
  | p :: q :: r, _, h => by simp [jn]
theorem jn_app : ∀ {a b : List (List Nat)}, a ≠ [] → b ≠ [] → jn (a ++ b) = jn a ++ 32 :: jn b
  | [], _, h, _ => absurd rfl h
  | [p], b, _, h => by
    cases b with
    | nil => exact absurd rfl h
    | cons q r => rfl
  | p :: q :: r, b, _, h => by
    show p ++ 32 :: jn ((q :: r) ++ b) = (p ++ 32 :: jn (q :: r)) ++ 32 :: jn b
    rw [jn_app (by simp) h]
    simp
theorem jn_one (p : List Nat) : jn [p] = p := rfl
/-- joined parts, joined -/
theorem jn_flat : ∀ {qs : List (List (List Nat))}, (∀ q ∈ qs, q ≠ []) → jn (qs.map jn) = jn qs.flatten
  | [], _ => rfl
  | [q], _ => by simp [jn]
  | q :: q2 :: r, h => by
    have ih := jn_flat (qs := q2 :: r) (fun z hz => h z (List.mem_cons_of_mem _ hz))
    show jn q ++ 32 :: jn ((q2 :: r).map jn) = _
    rw [ih, List.flatten_cons (l := q), jn_app (h q (by simp)) (by
      have := h q2 (by simp)
      simp [this])]
theorem jn_mem : ∀ {ps : List (List Nat)} {c : Nat}, c ∈ jn ps → c = 32 ∨ ∃ p ∈ ps, c ∈ p
  | [], c, h => by simp [jn] at h
  | [p], c, h => .inr ⟨p, by simp, h⟩
  | p :: q :: r, c, h => by
    rcases List.mem_append.mp h with h | h
    · exact .inr ⟨p, by simp, h⟩
    · rcases List.mem_cons.mp h with h | h
      · exact .inl h
      · rcases jn_mem h with h | ⟨z, hz, h⟩
        · exact .inl h
        · exact .inr ⟨z, List.mem_cons_of_mem _ hz, h⟩
theorem jn_blank : ∀ {ps : List (List Nat)}, 2 ≤ ps.length → 32 ∈ jn ps
  | [], h => by simp at h
  | [p], h => by simp at h
  | p :: q :: r, _ => by simp [jn]
theorem jn_len (m : Nat) : ∀ {ps : List (List Nat)}, (∀ p ∈ ps, p.length ≤ m) → (jn ps).length ≤ ps.length * (m + 1)
  | [], _ => by simp [jn]
  | [p], h => by
    have := h p (by simp)
    simp [jn]; omega
  | p :: q :: r, h => by
    have a := h p (by simp)
    have b := jn_len m (ps := q :: r) (fun z hz => h z (List.mem_cons_of_mem _ hz))
    simp only [jn, List.length_append, List.length_cons] at b ⊢
    rw [Nat.succ_mul]
    omega

/-- the words from i on up to j, not with it -/
def seg (ws : List (List Nat)) (i j : Nat) : List (List Nat) := (ws.drop i).take (j - i)
theorem seg_len {ws : List (List Nat)} {i j : Nat} (h2 : j ≤ ws.length) : (seg ws i j).length = j - i := by
  unfold seg
  rw [List.length_take, List.length_drop]
  omega
theorem seg_ne {ws : List (List Nat)} {i j : Nat} (h1 : i < j) (h2 : j ≤ ws.length) : seg ws i j ≠ [] := fun e => by
  have := seg_len (i := i) h2
  rw [e] at this
  simp at this
  omega
theorem seg_app {ws : List (List Nat)} {i j k : Nat} (h1 : i ≤ j) (h2 : j ≤ k) : seg ws i j ++ seg ws j k = seg ws i k := by
  unfold seg
  have e : ws.drop j = (ws.drop i).drop (j - i) := by rw [List.drop_drop]; congr 1; omega
  rw [e, show k - i = (j - i) + (k - j) by omega, List.take_add]
theorem seg_mem {ws : List (List Nat)} {i j : Nat} {w : List Nat} (h : w ∈ seg ws i j) : w ∈ ws := List.mem_of_mem_drop (List.mem_of_mem_take h)
theorem seg_all (ws : List (List Nat)) : seg ws 0 ws.length = ws := by simp [seg]
theorem seg_one {ws : List (List Nat)} {i : Nat} {w : List Nat} (h : ws[i]? = some w) : seg ws i (i + 1) = [w] := by
  obtain ⟨hi, e⟩ := List.getElem?_eq_some_iff.mp h
  unfold seg
  rw [List.drop_eq_getElem_cons hi, e, show i + 1 - i = 1 by omega]
  rfl
/-- the line of these words -/
def ln (ws : List (List Nat)) (i j : Nat) : List Nat := jn (seg ws i j)
/-- the lines of a breaking, by their words -/
def parts (ws : List (List Nat)) : Nat → List Nat → List (List (List Nat))
  | _, [] => []
  | i, j :: r => seg ws i j :: parts ws j r
def lns (ws : List (List Nat)) (i : Nat) (js : List Nat) : List (List Nat) := (parts ws i js).map jn
theorem lns_cons (ws : List (List Nat)) (i j : Nat) (r : List Nat) : lns ws i (j :: r) = ln ws i j :: lns ws j r := rfl
theorem lns_len (ws : List (List Nat)) : ∀ (i : Nat) (js : List Nat), (lns ws i js).length = js.length
  | _, [] => rfl
  | i, j :: r => by rw [lns_cons, List.length_cons, lns_len ws j r, List.length_cons]
section br
variable {F : Nat → Nat → Prop} {ws : List (List Nat)}
theorem lns_snoc : ∀ {js : List Nat} {i k : Nat} (j : Nat), Br F i js k → lns ws i (js ++ [j]) = lns ws i js ++ [ln ws k j]
  | [], _, _, j, h => by cases (show _ = _ from h); rfl
  | a :: r, i, k, j, ⟨_, _, h⟩ => by
    show lns ws i (a :: (r ++ [j])) = lns ws i (a :: r) ++ [ln ws k j]
    rw [lns_cons, lns_cons, lns_snoc j h, List.cons_append]
theorem parts_flat : ∀ {js : List Nat} {i k : Nat}, Br F i js k → (parts ws i js).flatten = seg ws i k
  | [], i, k, h => by cases (show i = k from h); simp [parts, seg]
  | j :: r, i, k, ⟨h1, _, h⟩ => by
    show (seg ws i j :: parts ws j r).flatten = _
    rw [List.flatten_cons, parts_flat h, seg_app (Nat.le_of_lt h1) h.le]
theorem parts_ne : ∀ {js : List Nat} {i k : Nat}, Br F i js k → k ≤ ws.length → ∀ q ∈ parts ws i js, q ≠ []
  | [], _, _, _, _, q, hq => by simp [parts] at hq
  | j :: r, i, k, ⟨h1, _, h⟩, hk, q, hq => by
    rcases List.mem_cons.mp hq with e | hq
    · rw [e]
      exact seg_ne h1 (Nat.le_trans h.le hk)
    · exact parts_ne h hk q hq
/-- the lines of a breaking, joined, are the text -/
theorem lns_text {js : List Nat} (h : Br F 0 js ws.length) : jn (lns ws 0 js) = jn ws := by
  unfold lns
  rw [jn_flat (parts_ne h (Nat.le_refl _)), parts_flat h, seg_all]
theorem lns_mem : ∀ {js : List Nat} {i k : Nat}, Br F i js k → ∀ {l : List Nat}, l ∈ lns ws i js → ∃ a b, i ≤ a ∧ a < b ∧ b ≤ k ∧ F a b ∧ l = ln ws a b
  | [], _, _, _, l, hl => by simp [lns, parts] at hl
  | j :: r, i, k, ⟨h1, h2, h⟩, l, hl => by
    rw [lns_cons] at hl
    rcases List.mem_cons.mp hl with e | hl
    · exact ⟨i, j, Nat.le_refl _, h1, h.le, h2, e⟩
    · obtain ⟨a, b, q1, q2, q3, q4, q5⟩ := lns_mem h hl
      exact ⟨a, b, by omega, q2, q3, q4, q5⟩
end br

/-! ### costs -/
section cost
variable (wl : List Nat → Int) (ws : List (List Nat)) (M : Int)
/-- what a line costs, none where it does not fit -/
def C (i j : Nat) : Option Int := if M - wl (ln ws i j) < 0 then none else if j = ws.length then some 0 else some ((M - wl (ln ws i j)) * (M - wl (ln ws i j)))
theorem C_no {i j : Nat} (h : M - wl (ln ws i j) < 0) : C wl ws M i j = none := if_pos h
theorem C_end {i : Nat} (h : ¬ M - wl (ln ws i ws.length) < 0) : C wl ws M i ws.length = some 0 := by
  unfold C
  rw [if_neg h, if_pos rfl]
theorem C_mid {i j : Nat} (h : ¬ M - wl (ln ws i j) < 0) (hj : j ≠ ws.length) : C wl ws M i j = some ((M - wl (ln ws i j)) * (M - wl (ln ws i j))) := by
  unfold C
  rw [if_neg h, if_neg hj]
theorem fit_iff {i j : Nat} : Fit (C wl ws M) i j ↔ wl (ln ws i j) ≤ M := by
  unfold Fit
  by_cases h : M - wl (ln ws i j) < 0
  · rw [C_no wl ws M h]
    simp
    omega
  · by_cases e : j = ws.length
    · subst e
      rw [C_end wl ws M h]
      simp; omega
    · rw [C_mid wl ws M h e]
      simp; omega
/-- the sum of the squares of the rooms of all lines but the last -/
theorem bc_sum : ∀ {js : List Nat} {i : Nat}, Br (Fit (C wl ws M)) i js ws.length → bc (C wl ws M) i js = ((lns ws i js).dropLast.map fun l => (M - wl l) * (M - wl l)).sum
  | [], _, _ => by simp [bc, lns, parts]
  | [j], i, ⟨h1, h2, h3⟩ => by
    cases (show j = ws.length from h3)
    have f := (fit_iff wl ws M).mp h2
    show (C wl ws M i ws.length).getD 0 + 0 = _
    rw [C_end wl ws M (by omega)]
    simp [lns, parts]
  | j :: j2 :: r, i, ⟨h1, h2, h3⟩ => by
    have f := (fit_iff wl ws M).mp h2
    have ih := bc_sum (js := j2 :: r) h3
    have hl : j < j2 ∧ j2 ≤ ws.length := ⟨h3.1, h3.2.2.le⟩
    show (C wl ws M i j).getD 0 + bc (C wl ws M) j (j2 :: r) = _
    rw [ih, C_mid wl ws M (by omega) (by omega), Option.getD_some]
    show _ = (((ln ws i j :: ln ws j j2 :: lns ws j2 r).dropLast).map _).sum
    rw [List.dropLast_cons_cons, List.map_cons, List.sum_cons]
    rfl
end cost

/-! ### widths of lines -/
section lines
variable {wl : List Nat → Int} {b : Int}
/-- a joined text is as wide as its words and the blanks -/
def sm (wl : List Nat → Int) (b : Int) (ps : List (List Nat)) : Int := (ps.map fun p => wl p + b).sum
theorem sm_app (ps qs : List (List Nat)) : sm wl b (ps ++ qs) = sm wl b ps + sm wl b qs := by
  unfold sm
  rw [List.map_append, List.sum_append]
theorem sm_nn : ∀ {ps : List (List Nat)}, (∀ p ∈ ps, 0 ≤ wl p + b) → 0 ≤ sm wl b ps
  | [], _ => by simp [sm]
  | p :: r, h => by
    have a := h p (by simp)
    have q := sm_nn (ps := r) (fun z hz => h z (List.mem_cons_of_mem _ hz))
    unfold sm at *
    rw [List.map_cons, List.sum_cons]
    omega
theorem wl_jn (ha : ∀ u v : List Nat, u ≠ [] → v ≠ [] → wl (u ++ 32 :: v) = wl u + b + wl v) : ∀ {ps : List (List Nat)}, ps ≠ [] → (∀ p ∈ ps, p ≠ []) → wl (jn ps) = sm wl b ps - b
  | [], h, _ => absurd rfl h
  | [p], _, _ => by simp [jn, sm]
  | p :: q :: r, _, h => by
    have ih := wl_jn ha (ps := q :: r) (by simp) (fun z hz => h z (List.mem_cons_of_mem _ hz))
    show wl (p ++ 32 :: jn (q :: r)) = _
    rw [ha _ _ (h p (by simp)) (jn_ne (by simp) fun z hz => h z (List.mem_cons_of_mem _ hz)), ih]
    show _ = sm wl b ([p] ++ (q :: r)) - b
    rw [sm_app]
    simp [sm]; omega
theorem fit_mono {ws : List (List Nat)} {M : Int} (ha : ∀ u v : List Nat, u ≠ [] → v ≠ [] → wl (u ++ 32 :: v) = wl u + b + wl v) (hne : ∀ p ∈ ws, p ≠ []) (hnn : ∀ p ∈ ws, 0 ≤ wl p + b)
    (i i' j k : Nat) (h1 : i' ≤ i) (h2 : i < j) (h3 : j ≤ k) (h4 : k ≤ ws.length) (h : Fit (C wl ws M) i' k) : Fit (C wl ws M) i j := by
  rw [fit_iff] at h ⊢
  have e1 : seg ws i' k = seg ws i' i ++ (seg ws i j ++ seg ws j k) := by
    rw [seg_app (Nat.le_of_lt h2) h3, seg_app h1 (by omega)]
  unfold ln at h ⊢
  rw [wl_jn ha (seg_ne (by omega) h4) (fun p hp => hne p (seg_mem hp)), e1, sm_app, sm_app] at h
  rw [wl_jn ha (seg_ne h2 (by omega)) (fun p hp => hne p (seg_mem hp))]
  have a := sm_nn (wl := wl) (b := b) (ps := seg ws i' i) (fun p hp => hnn p (seg_mem hp))
  have c := sm_nn (wl := wl) (b := b) (ps := seg ws j k) (fun p hp => hnn p (seg_mem hp))
  omega
end lines

/-! ### spread -/
def blanks (f each left : Int) (k : Nat) : List Int := (List.range k).map fun p : Nat => f + each + (if (p : Int) < left then 1 else 0)
theorem blanks_sum (f each : Int) (left : Nat) : ∀ k, (blanks f each left k).sum = k * (f + each) + (min k left : Nat)
  | 0 => by simp [blanks]
  | k + 1 => by
    have ih := blanks_sum f each left k
    unfold blanks at ih ⊢
    rw [List.range_succ, List.map_append, List.sum_append, ih]
    simp only [List.map_cons, List.map_nil, List.sum_cons, List.sum_nil]
    rw [show ((k + 1 : Nat) : Int) * (f + each) = k * (f + each) + (f + each) by rw [Int.natCast_add, Int.add_mul]; simp]
    split <;> omega
theorem blanks_all {f each left : Int} {k : Nat} {x : Int} (h : x ∈ blanks f each left k) : x = f + each ∨ x = f + each + 1 := by
  obtain ⟨p, _, rfl⟩ := List.mem_map.mp h
  split
  · exact .inr rfl
  · left; omega
theorem blanks_len (f each left : Int) (k : Nat) : (blanks f each left k).length = k := by simp [blanks]
theorem spread_sum {f room : Int} {k : Nat} (hk : 0 < k) : (blanks f (room / k) (room % k) k).sum = k * f + room := by
  have h0 := Int.emod_nonneg room (show (k : Int) ≠ 0 by omega)
  have h1 := Int.emod_lt_of_pos room (show (0 : Int) < k by omega)
  obtain ⟨l, hl⟩ : ∃ l : Nat, room % k = l := ⟨(room % k).toNat, by omega⟩
  rw [hl, blanks_sum]
  have e := Int.mul_ediv_add_emod room k
  rw [Int.mul_add]
  omega
end K96
namespace K96
theorem seg_snoc {ws : List (List Nat)} {i m : Nat} {w : List Nat} (hi : i ≤ m) (h : ws[m]? = some w) : seg ws i (m + 1) = seg ws i m ++ [w] := by
  rw [← seg_app hi (Nat.le_succ m), seg_one h]
theorem ln_snoc {ws : List (List Nat)} {i m : Nat} {w : List Nat} (hi : i < m) (h : ws[m]? = some w) : ln ws i (m + 1) = ln ws i m ++ 32 :: w := by
  have hm := (List.getElem?_eq_some_iff.mp h).1
  unfold ln
  rw [seg_snoc (Nat.le_of_lt hi) h, jn_app (seg_ne hi (by omega)) (by simp), jn_one]
theorem ln_one {ws : List (List Nat)} {m : Nat} {w : List Nat} (h : ws[m]? = some w) : ln ws m (m + 1) = w := by
  unfold ln
  rw [seg_one h, jn_one]
section
variable {wl : List Nat → Int} {ws : List (List Nat)} {M : Int}
/-- the lines so far, m words taken -/
def Full (wl : List Nat → Int) (ws : List (List Nat)) (M : Int) (m : Nat) (L : List (List Nat)) : Prop :=
  (m = 0 ∧ L = []) ∨ ∃ js i, Gr (Fit (C wl ws M)) 0 js i ∧ i < m ∧ Fit (C wl ws M) i m ∧ L = lns ws 0 js ++ [ln ws i m]
theorem full_one {w : List Nat} (h : ws[0]? = some w) (hw : wl w ≤ M) : Full wl ws M 1 [w] := by
  refine .inr ⟨[], 0, rfl, Nat.one_pos, ?_, ?_⟩
  · rw [fit_iff, ln_one h]
    exact hw
  · rw [ln_one h]
    rfl
theorem full_last {m : Nat} {L : List (List Nat)} (h : Full wl ws M m L) (hm : 0 < m) : ∃ L0 l, L = L0 ++ [l] ∧ ∀ w, ws[m]? = some w → (wl (l ++ 32 :: w) ≤ M → Full wl ws M (m + 1) (L0 ++ [l ++ 32 :: w])) ∧ (¬ wl (l ++ 32 :: w) ≤ M → wl w ≤ M → Full wl ws M (m + 1) (L ++ [w])) := by
  rcases h with ⟨e, _⟩ | ⟨js, i, hg, hi, hf, rfl⟩
  · omega
  · refine ⟨lns ws 0 js, ln ws i m, rfl, fun w hw => ⟨fun hfit => ?_, fun hno hw1 => ?_⟩⟩
    · refine .inr ⟨js, i, hg, by omega, ?_, by rw [ln_snoc hi hw]⟩
      rw [fit_iff, ln_snoc hi hw]
      exact hfit
    · have hn : ¬ Fit (C wl ws M) i (m + 1) := by
        rw [fit_iff, ln_snoc hi hw]
        exact hno
      refine .inr ⟨js ++ [m], m, hg.snoc hi hf hn, Nat.lt_succ_self m, ?_, ?_⟩
      · rw [fit_iff, ln_one hw]
        exact hw1
      · rw [lns_snoc m hg.br, ln_one hw]
theorem full_ne {m : Nat} {L : List (List Nat)} (h : Full wl ws M m L) (hm : 0 < m) : L ≠ [] := by
  obtain ⟨L0, l, e, _⟩ := full_last h hm
  rw [e]
  simp
/-- what the filled lines are, the whole text -/
theorem full_end {L : List (List Nat)} (h : Full wl ws M ws.length L) : ∃ js, Br (Fit (C wl ws M)) 0 js ws.length ∧ L = lns ws 0 js ∧
    ∀ (mono : ∀ i i' j b, i' ≤ i → i < j → j ≤ b → b ≤ ws.length → Fit (C wl ws M) i' b → Fit (C wl ws M) i j) (bs : List Nat), Br (Fit (C wl ws M)) 0 bs ws.length → js.length ≤ bs.length := by
  rcases h with ⟨e, rfl⟩ | ⟨js, i, hg, hi, hf, rfl⟩
  · refine ⟨[], e.symm, rfl, fun _ bs _ => Nat.zero_le _⟩
  · refine ⟨js ++ [ws.length], hg.br.snoc hi hf, by rw [lns_snoc _ hg.br], fun mono bs hb => ?_⟩
    have := hg.few mono hi (Nat.le_refl 0) hb
    simpa using this
theorem full_mem {m : Nat} {L : List (List Nat)} (h : Full wl ws M m L) {l : List Nat} (hl : l ∈ L) : ∃ i j, i < j ∧ j ≤ m ∧ l = ln ws i j := by
  rcases h with ⟨_, rfl⟩ | ⟨js, i, hg, hi, hf, rfl⟩
  · simp at hl
  · rcases List.mem_append.mp hl with h | h
    · obtain ⟨a, b, _, h2, h3, _, h5⟩ := lns_mem hg.br h
      exact ⟨a, b, h2, by omega, h5⟩
    · exact ⟨i, m, hi, Nat.le_refl _, by simpa using h⟩

/-- the even lines so far: up to word i, what they cost and what is left together the least cost -/
def Even (wl : List Nat → Int) (ws : List (List Nat)) (M : Int) (i : Nat) (L : List (List Nat)) : Prop :=
  ∃ js, Br (Fit (C wl ws M)) 0 js i ∧ L = lns ws 0 js ∧ P (C wl ws M) ws.length 0 = bc (C wl ws M) 0 js + P (C wl ws M) ws.length i
theorem even_nil : Even wl ws M 0 [] := ⟨[], rfl, rfl, by simp [bc]⟩
theorem even_snoc {i j : Nat} {L : List (List Nat)} {x : Int} (h : Even wl ws M i L) (hij : i < j) (hx : C wl ws M i j = some x) (he : x + P (C wl ws M) ws.length j = P (C wl ws M) ws.length i) : Even wl ws M j (L ++ [ln ws i j]) := by
  obtain ⟨js, hb, rfl, hp⟩ := h
  have hf : Fit (C wl ws M) i j := by
    unfold Fit
    rw [hx]
    rfl
  refine ⟨js ++ [j], hb.snoc hij hf, by rw [lns_snoc j hb], ?_⟩
  rw [bc_snoc _ j hb, hx, Option.getD_some]
  omega
end
end K96
namespace K96
open PySem PySem.Spec PyProof.Rows L2

/-! ### sum, max, min of a tuple of ints; list of a text -/
section
variable {X : Cx}
def rSumT (K : PySem.W.Frag) : List V → Hp → VK → Prop := fun ws H Q => ∃ (t : Addr) (ns : List Int), ws = [V.ref t] ∧ SqT K H t (ns.map V.int) ∧ Q (.int ns.sum) H
theorem sumT (hc : X.calm = true) : CallR X (.builtin "sum") (rSumT X.K) := by
  intro pins s σ H ws us Q I rr hw
  obtain ⟨t, ns, rfl, hT, q⟩ := hw
  obtain ⟨its, rv, ht, _⟩ := I.tuple hT
  rw [Vals.ref1 rr]
  have hi := rv.ints
  obtain ⟨xs, hx⟩ := hi.allInts.items
  have hn : numsOf its.toArray.toList = ns := by rw [show its.toArray.toList = its from rfl, hi.numsOf]
  have hl : s.heap.IsTuple t its.toArray := ht
  rw [hx] at hl hn
  rw [nums_intItems] at hn
  refine PySem.W.ktm_sumG (I.ok.hd hc) hl fun h' tk t' hk => ⟨.int ns.sum, H, I.kept hk, ?_, q⟩
  rw [preSum_eq, List.take_of_length_le (by simp), hn]
  exact ⟨_, rfl⟩

theorem foldMax (x : Int) : ∀ xs : List Int, PySem.W.maxOf x xs ∈ x :: xs ∧ ∀ y ∈ x :: xs, y ≤ PySem.W.maxOf x xs := fun xs => by
  unfold PySem.W.maxOf
  induction xs generalizing x with
  | nil => simp
  | cons z zs ih =>
    rw [List.foldl_cons]
    by_cases hl : PySem.W.DatumOrd.lt x z = true
    · rw [if_pos hl]
      have hl' : x < z := of_decide_eq_true hl
      obtain ⟨h1, h2⟩ := ih z
      refine ⟨List.mem_cons_of_mem _ h1, fun y hy => ?_⟩
      have hz := h2 z List.mem_cons_self
      rcases List.mem_cons.mp hy with e | hy
      · rw [e]; omega
      · exact h2 y hy
    · rw [if_neg hl]
      have hl' : ¬ x < z := fun e => hl (decide_eq_true e)
      obtain ⟨h1, h2⟩ := ih x
      have hx := h2 x List.mem_cons_self
      refine ⟨?_, fun y hy => ?_⟩
      · rcases List.mem_cons.mp h1 with e | h1
        · rw [e]; exact List.mem_cons_self
        · exact List.mem_cons_of_mem _ (List.mem_cons_of_mem _ h1)
      · rcases List.mem_cons.mp hy with e | hy
        · rw [e]; exact hx
        · rcases List.mem_cons.mp hy with e | hy
          · rw [e]; omega
          · exact h2 y (List.mem_cons_of_mem _ hy)
theorem foldMin (x : Int) : ∀ xs : List Int, PySem.W.minOf x xs ∈ x :: xs ∧ ∀ y ∈ x :: xs, PySem.W.minOf x xs ≤ y := fun xs => by
  unfold PySem.W.minOf
  induction xs generalizing x with
  | nil => simp
  | cons z zs ih =>
    rw [List.foldl_cons]
    by_cases hl : PySem.W.DatumOrd.lt z x = true
    · rw [if_pos hl]
      have hl' : z < x := of_decide_eq_true hl
      obtain ⟨h1, h2⟩ := ih z
      refine ⟨List.mem_cons_of_mem _ h1, fun y hy => ?_⟩
      have hz := h2 z List.mem_cons_self
      rcases List.mem_cons.mp hy with e | hy
      · rw [e]; omega
      · exact h2 y hy
    · rw [if_neg hl]
      have hl' : ¬ z < x := fun e => hl (decide_eq_true e)
      obtain ⟨h1, h2⟩ := ih x
      have hx := h2 x List.mem_cons_self
      refine ⟨?_, fun y hy => ?_⟩
      · rcases List.mem_cons.mp h1 with e | h1
        · rw [e]; exact List.mem_cons_self
        · exact List.mem_cons_of_mem _ (List.mem_cons_of_mem _ h1)
      · rcases List.mem_cons.mp hy with e | hy
        · rw [e]; exact hx
        · rcases List.mem_cons.mp hy with e | hy
          · rw [e]; omega
          · exact h2 y (List.mem_cons_of_mem _ hy)
def rMaxT (K : PySem.W.Frag) : List V → Hp → VK → Prop := fun ws H Q => ∃ (t : Addr) (x : Int) (ns : List Int), ws = [V.ref t] ∧ SqT K H t ((x :: ns).map V.int) ∧ ∀ m, m ∈ x :: ns → (∀ y ∈ x :: ns, y ≤ m) → Q (.int m) H
def rMinT (K : PySem.W.Frag) : List V → Hp → VK → Prop := fun ws H Q => ∃ (t : Addr) (x : Int) (ns : List Int), ws = [V.ref t] ∧ SqT K H t ((x :: ns).map V.int) ∧ ∀ m, m ∈ x :: ns → (∀ y ∈ x :: ns, m ≤ y) → Q (.int m) H
theorem holdAll_ints {h : Heap} : ∀ {us : List Value} {ns : List Int}, Vals (ns.map V.int) us → PySem.W.HoldAll h us ns
  | _, [], .nil => PySem.W.HoldAll.nil
  | _, n :: ns, .cons r t => by
    obtain ⟨k, rfl⟩ := r
    exact PySem.W.HoldAll.cons (PySem.W.holds_int n k) (holdAll_ints t)
theorem relV_holds {h : Heap} {v : Value} {m : Int} (q : PySem.W.Holds h v m) : RelV (.int m) v := by
  obtain ⟨as, r⟩ := q
  cases r with
  | int => exact ⟨_, rfl⟩
theorem maxT (hc : X.calm = true) (hu : X.A.units + 64 < cLine) : CallR X (.builtin "max") (rMaxT X.K) := by
  intro pins s σ H ws us Q I rr hw
  obtain ⟨t, x, ns, rfl, hT, q⟩ := hw
  obtain ⟨its, rv, ht, _⟩ := I.tuple hT
  rw [Vals.ref1 rr]
  have hl : s.heap.IsTuple t its.toArray := ht
  obtain ⟨f1, f2⟩ := foldMax x ns
  refine PySem.W.max_tuple_datum (x := x) (xs := ns) (I.ok.hd hc) hl (holdAll_ints rv) ?_ fun i v h' tk _ hv hk => ⟨.int _, H, I.kept hk, relV_holds hv, q _ f1 f2⟩
  show X.A.units + 1 + 0 < cLine
  omega
theorem minT (hc : X.calm = true) (hu : X.A.units + 64 < cLine) : CallR X (.builtin "min") (rMinT X.K) := by
  intro pins s σ H ws us Q I rr hw
  obtain ⟨t, x, ns, rfl, hT, q⟩ := hw
  obtain ⟨its, rv, ht, _⟩ := I.tuple hT
  rw [Vals.ref1 rr]
  have hl : s.heap.IsTuple t its.toArray := ht
  obtain ⟨f1, f2⟩ := foldMin x ns
  refine PySem.W.min_tuple_datum (x := x) (xs := ns) (I.ok.hd hc) hl (holdAll_ints rv) ?_ fun i v h' tk _ hv hk => ⟨.int _, H, I.kept hk, relV_holds hv, q _ f1 f2⟩
  show X.A.units + 1 + 0 < cLine
  omega
/-- list(text): its signs -/
def rListS (z : Str) : List V := z.cps.toList.map fun c => V.str ⟨#[c]⟩
theorem list_of_text (hc : X.calm = true) : CallR X (.type "list") (fun ws H Q => ∃ z : Str, ws = [V.str z] ∧ z.length ≤ sizeLine ∧ ∀ l, H l = none → Q (.ref l) (upd H l (.lst (rListS z)))) := by
  intro pins s σ H ws us Q I rr hw
  obtain ⟨z, rfl, hz, q⟩ := hw
  obtain ⟨u, rfl, t, rfl⟩ := vals1 rr
  refine call_list_str (I.ok.hd hc) z t (fun h' tk acc c hk hS hacc => ?_) hz
  have hn : H s.heap.objs.size = none := I.hok.fresh (Nat.le_refl _)
  have hl : (rListS z).length ≤ sizeLine := by
    unfold rListS
    rw [List.length_map, Array.length_toList]
    exact hz
  refine ⟨.ref s.heap.objs.size, upd H s.heap.objs.size (.lst (rListS z)), I.laid (t' := tk) hk (Nat.le_refl _) ⟨hl, acc.toList, c, ?_, hS⟩, rfl, q _ hn⟩
  refine vals_of_at ?_ fun j x u hx hu => ?_
  · have e1 : acc.toList.length = z.cps.size := by rw [Array.length_toList]; exact hacc.1
    unfold rListS
    rw [e1, List.length_map, Array.length_toList]
  · have hu' : acc[j]? = some u := by simpa using hu
    obtain ⟨ch, k, hc1, rfl⟩ := hacc.2 j u hu'
    unfold rListS at hx
    rw [List.getElem?_map, Array.getElem?_toList, hc1] at hx
    cases hx
    exact ⟨_, rfl⟩
end

/-! ### enumerate, zip: each item a new pair -/
/-- n pairs (f i, g i), while cond stands -/
def Itp (n : Nat) (f g : Nat → V) (cond : Hp → Prop) : It :=
  ⟨fun i H => i < n ∧ cond H, fun i H v H' => ∃ T, v = .ref T ∧ H T = none ∧ H' = upd H T (.tup [f i, g i]), fun i H => i = n ∧ cond H⟩
def YP (f g : Nat → V) : Nat → Hp → V → Hp → Prop := fun i H v H' => ∃ T, v = .ref T ∧ H T = none ∧ H' = upd H T (.tup [f i, g i])
theorem walk_itp {n : Nat} {f g : Nat → V} {cond : Hp → Prop} : Walk (Itp n f g cond) n cond (YP f g) :=
  ⟨fun _ _ hi q => ⟨hi, q⟩, fun _ q => ⟨rfl, q⟩, fun _ _ _ _ _ _ y => y⟩

section
variable {P : Program} {w : World} {K : PySem.W.Frag} {elts : List Expr} {kk : Nat} {tpos : Pos} {it : Addr} {fp wr fp' : List Addr} {n : Nat} {Y : Nat → Heap → Value → Heap → Prop} {St : Nat → Heap → Prop} {f g : Nat → V} {cond : Hp → Prop}
/-- what goes over the heap (GoesN), told as the layer's Turn; pre: what the walk asks of the heap beside its own cells, given by cond -/
theorem turn_pairs {pre : Heap → Prop} (hsub : ∀ b ∈ wr, b ∈ fp) (hm : it ∈ fp)
    (W : ∀ A : Around, A.handled = none → ∀ h : Heap, pre h → ∃ (Y : Nat → Heap → Value → Heap → Prop) (St' : Nat → Heap → Prop), (∀ i h', St i h' → pre h' → (∀ b o, h.get? b = some o → h'.get? b = some o) → St' i h') ∧ (∀ i h', St' i h' → St i h') ∧
      GoesN P w A (.Tuple elts kk tpos) it fp' wr n Y St' ∧ ∀ i h0 v h1, i < n → Y i h0 v h1 → ∃ T u1 u2, v = .ref T ∧ h0.objs.size ≤ T ∧ RelV (f i) u1 ∧ RelV (g i) u2 ∧ h1.IsTuple T #[u1, u2])
    (hpre : ∀ (X : Cx) (pins : List (Addr × Obj)) (s : Shared) (σ : L2.St) (H : Hp), X.prog = P → X.w = w → X.K = K → Inv X pins σ H s → cond H → pre s.heap)
    (frame : ∀ i h h', St i h → (∀ b ∈ fp, ∀ o, h.get? b = some o → h'.get? b = some o) → St i h')
    (live : ∀ i h, St i h → ∀ b ∈ fp, ∃ o, h.get? b = some o ∧ ∀ v, o.data ≠ .cell v)
    (hself : ∀ (A : Around) (i : Nat) (s : Shared) (Q : Value → Shared → Prop) (E : Value → Shared → Prop), St i s.heap → Q (.ref it) s → wpAny (model P w) A (pyIter (.ref it)) Q E s) :
    Turn P w K (.Tuple elts kk tpos) (Itp n f g cond) fp it St where
  mem := hm
  obj := live
  keep := frame
  item := by
    intro X hP hw hK hc i pins s σ H E I hf st hg
    obtain ⟨hi, hcd⟩ := hg
    have hp := hpre X pins s σ H hP hw hK I hcd
    obtain ⟨Y, St', to, back, W, hY⟩ := W X.A (I.ok.hd hc) s.heap hp
    subst hP hw hK
    refine W.goes i s _ E hi (to i _ st hp fun _ _ e => e) fun v h' tk y st' keep _ => ?_
    obtain ⟨T, u1, u2, rfl, hT, r1, r2, o, ho, hcl, m, hd⟩ := hY i _ v h' hi y
    have kp : ∀ b o, b ∉ fp → s.heap.get? b = some o → h'.get? b = some o := fun b o hb e => keep b o (fun z => hb (hsub b z)) e
    have new : ObjOk X.prog X.w (upd H T (.tup [f i, g i])) h' T (.tup [f i, g i]) :=
      ⟨by show 2 ≤ sizeLine; decide, [u1, u2], .cons r1 (.cons r2 .nil), ⟨o, ho, hcl, m, hd⟩⟩
    refine ⟨.ref T, upd H T (.tup [f i, g i]), I.turnedNew (t' := tk) (ch := fp) kp hf hT new, rfl, ⟨T, rfl, I.hok.fresh hT, rfl⟩, back _ _ st', fun b hb => ?_⟩
    obtain ⟨o', e', _⟩ := live i _ st b hb
    rw [upd_ne (Nat.ne_of_lt (Nat.lt_of_lt_of_le (Heap.lt_size e') hT))]
    exact (hf b hb).1
  done := by
    intro X hP hw hK hc i pins s σ H E I hf st hg
    obtain ⟨hi, hcd⟩ := hg
    have hp := hpre X pins s σ H hP hw hK I hcd
    obtain ⟨Y, St', to, back, W, hY⟩ := W X.A (I.ok.hd hc) s.heap hp
    subst hP hw hK hi
    exact W.stops s _ E (to _ _ st hp fun _ _ e => e) fun h' tk keep _ => I.turnedL (t' := tk) (ch := fp) (fun b o hb e => keep b o (fun z => hb (hsub b z)) e) hf
  self := hself
end

/-- the sign at place i, as a text -/
def sgn (z : Str) (i : Nat) : V := .str ⟨#[z.cps.getD i 0]⟩
theorem sgn_rel {z : Str} {i : Nat} {v : Value} (h : ∃ c u, z.cps[i]? = some c ∧ v = .str ⟨#[c]⟩ u) : RelV (sgn z i) v := by
  obtain ⟨c, u, hc, rfl⟩ := h
  have e : z.cps.getD i 0 = c := by
    rw [Array.getD_eq_getD_getElem?, hc]
    rfl
  refine ⟨u, ?_⟩
  rw [e]

/-! ### enumerate -/
set_option maxHeartbeats 8000000 in
theorem new_enum1 {v : Value} {o : Obj} {H : Heap → Prop} (B : Begins v o H) :
    Meets (Builtin.«enumerate.__new__» ⟨[.type "enumerate", v], []⟩) (fun _ R s => H s.heap ∧
      R (.ok (.ret (.ref (s.heap.push o).objs.size))) { s with heap := (s.heap.push o).push { cls := .type "enumerate", data := .fields #[.none, .bool false, .ref s.heap.objs.size, rawInt 0, .none, .none] } }) :=
  .of_wp fun prog w A R s h => by
    obtain ⟨hp, g, d, tk, os⟩ := s
    obtain ⟨h1, h⟩ := h
    have hsub := sub_enumerate
    have go : ∀ {A' : Around} {E : Value → Shared → Prop} {Q : Value → Shared → Prop}, Q (.ref hp.objs.size) ⟨hp.push o, g, d, tk, os⟩ → wpAny (model prog w) A' (pyIter v) Q E ⟨hp, g, d, tk, os⟩ :=
      fun q => B.iter prog w _ _ ⟨hp, g, d, tk, os⟩ _ h1 q
    wp_walk using go
    refine wpAny_stack_any fun st => wpAny_pure ?_
    split
    · rename_i c _ _ _ _ _
      cases (c == Value.type "enumerate")
      all_goals (wp_walk using go; exact ⟨_, rfl, h⟩)
    · wp_walk using go
      exact ⟨_, rfl, h⟩
section
variable {prog : Program} {w : World} {A : Around} {E : Value → Shared → Prop} {s : Shared}
theorem enum1_begins {v : Value} {o : Obj} {H : Heap → Prop} {Q : Value → Shared → Prop} (B : Begins v o H) (h1 : H s.heap)
    (h : ∀ h', IsEnum h' (s.heap.objs.size + 1) s.heap.objs.size 0 .none → h'.get? s.heap.objs.size = some o →
      (∀ b u, s.heap.get? b = some u → h'.get? b = some u) → Q (.ref (s.heap.objs.size + 1)) { s with heap := h' }) :
    wpAny (model prog w) A (call (.type "enumerate") [v]) Q E s := by
  refine callType_new F.called_enumerate (by decide) (F.typeCall_enumerate_1 _) (F.newCall_enumerate_1 _) (fun obj => F.args_object_init_2 obj _) F.entry_enumerate_new (new_enum1 B) ⟨h1, ?_⟩
  have zz : (s.heap.push o).objs.size = s.heap.objs.size + 1 := Heap.size_push ..
  have en := Heap.get?_push_size (s.heap.push o) (o := { cls := .type "enumerate", data := .fields #[.none, .bool false, .ref s.heap.objs.size, rawInt 0, .none, .none] }) rfl
  show _ ∧ _
  rw [zz] at en ⊢
  exact ⟨⟨_, en, rfl⟩, h _ en (Heap.get?_push_of_some _ (Heap.get?_push_size _ B.free)) fun b u e => Heap.get?_push_of_some _ (Heap.get?_push_of_some _ e)⟩
end
section
variable {X : Cx} {e : Expr} {ta : TA} {p pos tpos : Pos} {elts : List Expr} {kk : Nat}
def nat2 (i : Nat) : V := .int ((i : Nat) : Int)
/-- enumerate(text) -/
def iEnumS (ta : TA) : TI := fun σ H R => ta σ H fun ws H1 => ∃ z : Str, ws = [.str z] ∧ R (Itp z.cps.size nat2 (sgn z) fun _ => True) H1
theorem turn_enumS {P : Program} {w : World} {K : PySem.W.Frag} (e it : Addr) (z : Str) (t : Tok) (hne : e ≠ it) :
    Turn P w K (.Tuple elts kk tpos) (Itp z.cps.size nat2 (sgn z) fun _ => True) [e, it] e (fun i h => (∃ old, IsEnum h e it ((i : Nat) : Int) old) ∧ h.IsStrIter it (strIterType z) z t i) := by
  refine turn_pairs (pre := fun _ => True) (wr := [e, it]) (fp' := e :: [it]) (fun _ h => h) (by simp) (fun A hA h _ => ?_) (fun _ _ _ _ _ _ _ _ _ _ => trivial) (fun i h h' st k => ?_) (fun i h st b hb => ?_) fun A i s Q E st h => ?_
  · have D := Draws.text (prog := P) (w := w) (A := A.in1) (show A.in1.handled = none from hA) it z t
    have G := GoesN.enumFrom (elts := elts) (x1 := kk) (pos := tpos) 0 D e hne (by simpa using hne) (by simp)
    refine ⟨_, _, fun i h' st _ _ => ?_, fun i h' st => ?_, G, fun i h0 v h1 hi y => ?_⟩
    · rw [Int.zero_add]; exact st
    · rw [Int.zero_add] at st; exact st
    · obtain ⟨T, tk, x, rfl, hT, hx, ht⟩ := y
      rw [Int.zero_add] at ht
      exact ⟨T, _, x, rfl, hT, ⟨_, rfl⟩, sgn_rel hx, ht⟩
  · obtain ⟨⟨old, he⟩, o, ho, r⟩ := st
    exact ⟨⟨old, k e (by simp) _ he⟩, o, k it (by simp) _ ho, r⟩
  · obtain ⟨⟨old, he⟩, o, ho, hc, hd⟩ := st
    rcases List.mem_cons.mp hb with q | hb
    · rw [q]; exact ⟨_, he, fun v q => nomatch q⟩
    · rw [List.mem_singleton.mp hb]; exact ⟨o, ho, fun v q => by rw [hd] at q; cases q⟩
  · obtain ⟨⟨old, he⟩, _⟩ := st
    exact wpAny_pyIter_enum he h
theorem pi_enumS (hg : Gl X "enumerate") (hm : X.mg "enumerate" = none) (ha : PA X [e] ta) (hs : starEach [e] X.env = [(false, eval e X.env)] := by rfl) :
    PI X (.Tuple elts kk tpos) (.Call (.Name "enumerate" p) [e] [] pos) (iEnumS ta) := by
  refine ⟨fun pins s σ H R I h => ?_⟩
  refine Call_ (ld_blt I hg hm boot_enumerate (PyProof.Rows.callWith_type1 (thn (ha.run pos pins s σ H _ I h) fun us s1 ⟨ws, H1, I1, r1, q1⟩ => ?_) hs rfl))
  obtain ⟨z, ex, q⟩ := q1
  subst ex
  obtain ⟨u, rfl, t, rfl⟩ := vals1 r1
  refine enum1_begins (begins_text z t) trivial fun h' he hit hk => wpAny_pyIter_enum he ?_
  have I2 : Inv X pins σ H1 { s1 with heap := h' } := I1.kept (t' := s1.toks) hk
  refine ⟨s1.heap.objs.size + 1, [s1.heap.objs.size + 1, s1.heap.objs.size], _, _, H1, rfl, I2, turn_enumS (s1.heap.objs.size + 1) s1.heap.objs.size z t (Nat.succ_ne_self _), ⟨⟨.none, he⟩, _, hit, rfl, rfl⟩, fun b hb => ?_, q⟩
  have hle : s1.heap.objs.size ≤ b := by
    rcases List.mem_cons.mp hb with q | hb
    · rw [q]; exact Nat.le_succ _
    · rw [List.mem_singleton.mp hb]; exact Nat.le_refl _
  exact I1.fpOk hle (I1.hok.fresh hle)

/-- enumerate(tuple), the tuple at a with the items xs -/
def itmV (xs : List V) (i : Nat) : V := xs.getD i .non
def iEnumT (K : PySem.W.Frag) (ta : TA) : TI := fun σ H R => ta σ H fun ws H1 => ∃ a xs, ws = [.ref a] ∧ SqT K H1 a xs ∧ R (Itp xs.length nat2 (itmV xs) fun H => SqT K H a xs) H1
theorem itm_rel {xs : List V} {its : List Value} (rv : Vals xs its) {i : Nat} {v : Value} (h : its.toArray[i]? = some v) : RelV (itmV xs i) v := by
  have h' : its[i]? = some v := by simpa using h
  have hl : i < xs.length := by
    rw [rv.length]
    exact (List.getElem?_eq_some_iff.mp h').1
  obtain ⟨u, hu, r⟩ := rv.get (i := i) (x := xs[i]) (by simp [hl])
  rw [h'] at hu
  cases hu
  unfold itmV
  rw [List.getD_eq_getElem?_getD, List.getElem?_eq_getElem hl]
  exact r
theorem turn_enumT {P : Program} {w : World} {K : PySem.W.Frag} (e it a : Addr) (xs : List V) (hne : e ≠ it) (hae : a ≠ e) (hai : a ≠ it) :
    Turn P w K (.Tuple elts kk tpos) (Itp xs.length nat2 (itmV xs) fun H => SqT K H a xs) [e, it] e (fun i h => (∃ old, IsEnum h e it ((i : Nat) : Int) old) ∧ h.IsTupleIter it a i) := by
  refine turn_pairs (pre := fun h => ∃ its : List Value, Vals xs its ∧ h.IsTuple a its.toArray) (wr := [e, it]) (fp' := e :: [it, a]) (fun _ h => h) (by simp) (fun A hA h hp => ?_)
    (fun X pins s σ H hP hw hK I hc => ?_) (fun i h h' st k => ?_) (fun i h st b hb => ?_) fun A i s Q E st h => ?_
  · obtain ⟨its, rv, ht⟩ := hp
    have D := Draws.tuple (prog := P) (w := w) (A := A.in1) (show A.in1.handled = none from hA) it a hai its.toArray
    have G := GoesN.enumFrom (elts := elts) (x1 := kk) (pos := tpos) 0 D e hne (by simp only [List.mem_cons, List.not_mem_nil, or_false, not_or]; exact ⟨hne, Ne.symm hae⟩) (by simp)
    have el : its.toArray.size = xs.length := by rw [List.size_toArray, ← rv.length]
    rw [el] at G
    refine ⟨_, _, fun i h' st hp' hk => ?_, fun i h' st => ?_, G, fun i h0 v h1 hi y => ?_⟩
    · rw [Int.zero_add]
      exact ⟨st.1, st.2, ht.at fun o eo => hk a o eo⟩
    · rw [Int.zero_add] at st
      exact ⟨st.1, st.2.1⟩
    · obtain ⟨T, tk, x, rfl, hT, hx, ht⟩ := y
      rw [Int.zero_add] at ht
      exact ⟨T, _, x, rfl, hT, ⟨_, rfl⟩, itm_rel rv hx, ht⟩
  · subst hP hw hK
    obtain ⟨its, rv, ht, _⟩ := I.tuple hc
    exact ⟨its, rv, ht⟩
  · obtain ⟨⟨old, he⟩, o, ho, r⟩ := st
    exact ⟨⟨old, k e (by simp) _ he⟩, o, k it (by simp) _ ho, r⟩
  · obtain ⟨⟨old, he⟩, o, ho, hc, hd⟩ := st
    rcases List.mem_cons.mp hb with q | hb
    · rw [q]; exact ⟨_, he, fun v q => nomatch q⟩
    · rw [List.mem_singleton.mp hb]; exact ⟨o, ho, fun v q => by rw [hd] at q; cases q⟩
  · obtain ⟨⟨old, he⟩, _⟩ := st
    exact wpAny_pyIter_enum he h
theorem pi_enumT (hg : Gl X "enumerate") (hm : X.mg "enumerate" = none) (ha : PA X [e] ta) (hs : starEach [e] X.env = [(false, eval e X.env)] := by rfl) :
    PI X (.Tuple elts kk tpos) (.Call (.Name "enumerate" p) [e] [] pos) (iEnumT X.K ta) := by
  refine ⟨fun pins s σ H R I h => ?_⟩
  refine Call_ (ld_blt I hg hm boot_enumerate (PyProof.Rows.callWith_type1 (thn (ha.run pos pins s σ H _ I h) fun us s1 ⟨ws, H1, I1, r1, q1⟩ => ?_) hs rfl))
  obtain ⟨a, xs, ex, hT, q⟩ := q1
  subst ex
  obtain ⟨u, rfl, ru⟩ := vals1 r1
  cases (show u = Value.ref a from ru)
  obtain ⟨its, rv, ht, _⟩ := I1.tuple hT
  have ht' : s1.heap.IsTuple a its.toArray := ht
  have hal : a < s1.heap.objs.size := ht.lt
  refine enum1_begins (begins_tuple a its.toArray) ht' fun h' he hit hk => wpAny_pyIter_enum he ?_
  have I2 : Inv X pins σ H1 { s1 with heap := h' } := I1.kept (t' := s1.toks) hk
  refine ⟨s1.heap.objs.size + 1, [s1.heap.objs.size + 1, s1.heap.objs.size], _, _, H1, rfl, I2,
    turn_enumT (s1.heap.objs.size + 1) s1.heap.objs.size a xs (Nat.succ_ne_self _) (Nat.ne_of_lt (Nat.lt_succ_of_lt hal)) (Nat.ne_of_lt hal), ⟨⟨.none, he⟩, _, hit, rfl, rfl⟩, fun b hb => ?_, q⟩
  have hle : s1.heap.objs.size ≤ b := by
    rcases List.mem_cons.mp hb with q | hb
    · rw [q]; exact Nat.le_succ _
    · rw [List.mem_singleton.mp hb]; exact Nat.le_refl _
  exact I1.fpOk hle (I1.hok.fresh hle)

/-! ### zip of two texts -/
def iZipS (ta : TA) : TI := fun σ H R => ta σ H fun ws H1 => ∃ z y : Str, ws = [.str z, .str y] ∧ R (Itp (min z.cps.size y.cps.size) (sgn z) (sgn y) fun _ => True) H1
theorem turn_zipS {P : Program} {w : World} {K : PySem.W.Frag} (N : Nat) (z y : Str) (t u : Tok) :
    Turn P w K (.Tuple elts kk tpos) (Itp (min z.cps.size y.cps.size) (sgn z) (sgn y) fun _ => True) [N + 4, N + 2, N + 3, N, N + 1] (N + 4)
      (fun i h => IsZip h (N + 4) (N + 2) (N + 3) .none ∧ IsTupOf2 h (N + 2) (.ref N) (.ref (N + 1)) ∧ (∃ a b, IsTupOf2 h (N + 3) a b) ∧ h.IsStrIter N (strIterType z) z t i ∧ h.IsStrIter (N + 1) (strIterType y) y u i) := by
  refine turn_pairs (pre := fun _ => True) (wr := [N + 4, N + 3, N, N + 1]) (fp' := (N + 4) :: (N + 2) :: (N + 3) :: ([N] ++ [N + 1])) (fun b hb => ?_) (by simp) (fun A hA h _ => ?_) (fun _ _ _ _ _ _ _ _ _ _ => trivial)
    (fun i h h' st k => ?_) (fun i h st b hb => ?_) fun A i s Q E st h => ?_
  · simp only [List.mem_cons, List.not_mem_nil, or_false] at hb ⊢
    rcases hb with e | e | e | e <;> simp [e]
  · have D1 := Draws.text (prog := P) (w := w) (A := A.in1) (show A.in1.handled = none from hA) N z t
    have D2 := Draws.text (prog := P) (w := w) (A := A.in1) (show A.in1.handled = none from hA) (N + 1) y u
    have G := GoesN.zip2 (elts := elts) (x1 := kk) (pos := tpos) (zip_sep2 (N := N) (fp1 := []) (fp2 := []) (fun _ h => nomatch h) (fun _ h => nomatch h)) D1 D2
    refine ⟨_, _, fun i h' st _ _ => st, fun i h' st => st, G, fun i h0 v h1 hi y => ?_⟩
    obtain ⟨T, x, x2, rfl, hT, hx, hx2, ht⟩ := y
    exact ⟨T, x, x2, rfl, hT, sgn_rel hx, sgn_rel hx2, ht⟩
  · obtain ⟨h1, h2, ⟨a, b, h3⟩, ⟨o4, h4, r4⟩, o5, h5, r5⟩ := st
    exact ⟨k _ (by simp) _ h1, k _ (by simp) _ h2, ⟨a, b, k _ (by simp) _ h3⟩, ⟨o4, k _ (by simp) _ h4, r4⟩, o5, k _ (by simp) _ h5, r5⟩
  · obtain ⟨h1, h2, ⟨a, c, h3⟩, ⟨o4, h4, c4, d4⟩, o5, h5, c5, d5⟩ := st
    simp only [List.mem_cons, List.not_mem_nil, or_false] at hb
    rcases hb with q | q | q | q | q
    · rw [q]; exact ⟨_, h1, fun v q => nomatch q⟩
    · rw [q]; exact ⟨_, h2, fun v q => nomatch q⟩
    · rw [q]; exact ⟨_, h3, fun v q => nomatch q⟩
    · rw [q]; exact ⟨o4, h4, fun v q => by rw [d4] at q; cases q⟩
    · rw [q]; exact ⟨o5, h5, fun v q => by rw [d5] at q; cases q⟩
  · exact wpAny_pyIter_zip st.1 h
theorem pi_zipS {e2 : Expr} (hg : Gl X "zip") (hm : X.mg "zip" = none) (ha : PA X [e, e2] ta)
    (hs : starEach [e, e2] X.env = (false, eval e X.env) :: starEach [e2] X.env := by rfl) (hpl : (backTo pos (starEach [e2] X.env)).any (·.1) = false := by rfl) :
    PI X (.Tuple elts kk tpos) (.Call (.Name "zip" p) [e, e2] [] pos) (iZipS ta) := by
  refine ⟨fun pins s σ H R I h => ?_⟩
  refine Call_ (ld_blt I hg hm PyProof.Rows.boot_zip (PyProof.Rows.callWith_type1 (thn (ha.run pos pins s σ H _ I h) fun us s1 ⟨ws, H1, I1, r1, q1⟩ => ?_) hs hpl))
  obtain ⟨z, y, ex, q⟩ := q1
  subst ex
  obtain ⟨u1, u2, rfl, ⟨t, rfl⟩, u, rfl⟩ := vals2 r1
  refine zip_begins2 (begins_text z t) (begins_text y u) trivial trivial fun h' hz hT hO h1 h2 _ hk => wpAny_pyIter_zip hz ?_
  have I2 : Inv X pins σ H1 { s1 with heap := h' } := I1.kept (t' := s1.toks) hk
  refine ⟨s1.heap.objs.size + 4, [s1.heap.objs.size + 4, s1.heap.objs.size + 2, s1.heap.objs.size + 3, s1.heap.objs.size, s1.heap.objs.size + 1], _, _, H1, rfl, I2, turn_zipS s1.heap.objs.size z y t u,
    ⟨hz, hT, ⟨_, _, hO⟩, ⟨_, h1, rfl, rfl⟩, _, h2, rfl, rfl⟩, fun b hb => ?_, q⟩
  have hle : s1.heap.objs.size ≤ b := by
    simp only [List.mem_cons, List.not_mem_nil, or_false] at hb
    rcases hb with q | q | q | q | q
    · rw [q]; exact Nat.le_add_right _ _
    · rw [q]; exact Nat.le_add_right _ _
    · rw [q]; exact Nat.le_add_right _ _
    · rw [q]; exact Nat.le_refl _
    · rw [q]; exact Nat.le_add_right _ _
  exact I1.fpOk hle (I1.hok.fresh hle)
end
end K96
/-! Rules whose reading names the written part K, told with K apart: for a comprehension's block. -/
namespace K96
open PySem PySem.Spec PyProof.Rows L2
section
variable (K : PySem.W.Frag) {X : Cx}
theorem k_ix_list (h : X.K = K := by rfl) : IxR X (rIxL K) := by
  subst h
  exact ix_list
theorem k_ix_tup (h : X.K = K := by rfl) : IxR X (rIxT K) := by
  subst h
  exact ix_tup
theorem k_isi (h : X.K = K := by rfl) : CallR X (.builtin "isinstance") (rIsi K) := by
  subst h
  exact call_isi
def rLenK (K : PySem.W.Frag) : List V → Hp → VK → Prop := fun xs H Q => ∃ p ys, xs = [.ref p] ∧ (SqL K H p ys ∨ SqT K H p ys) ∧ Q (.int ys.length) H
theorem k_len_seq (h : X.K = K := by rfl) : CallR X (.builtin "len") (rLenK K) := by
  subst h
  exact call_len_seq
theorem k_eqD (hu : X.A.units + 64 < cLine) (h : X.K = K := by rfl) : OpR X (compareOp .Eq) (rEqD K) := by
  subst h
  exact op_eqD hu
theorem k_pg_tup {es : List Expr} {k : Nat} {t : TGs} {n : Nat} {pos : Pos} (h0 : PGs X es t) (hc : X.calm = true := by rfl)
    (hn : (assignEach es X.env).length = n := by rfl) (hst : (assignEach es X.env).findIdx? (·.1) = none := by rfl) (h : X.K = K := by rfl) : PG X (.Tuple es k pos) (gTup K n t) := by
  subst h
  exact pg_tup hc h0 hn hst
theorem k_pi_list {tg l : Expr} {tl : TE} (hl : PE X l tl) (h : X.K = K := by rfl) : PI X tg l (iList K tl) := by
  subst h
  exact pi_list hl
theorem k_bm {T name : String} {id : String} {r : V → List V → Hp → VK → Prop} {o e : Expr} {es : List Expr} {to : TE} {t : TA} {apos cpos : Pos} (pa : PlainAttrs T) (slot : Slot T name id) (hty : typeOf (.builtin id) = pure (.type "method_descriptor")) (hm : MtR X id r) (ho : PE X o to) (ha : PA X (e :: es) t)
    (hbase : attributeBase o name X.env (eval o X.env) = eval o X.env := by rfl)
    (hfew : ((backTo cpos (starEach (e :: es) X.env)).all (fun x => !x.1) && (backToKw cpos (keywordEach [] X.env)).all (fun x => x.1.isSome) && decide ((e :: es).length + ([] : List Keyword).length + (if ([] : List Keyword).isEmpty then 0 else 1) < 30)) = true := by rfl)
    (hline : (apos.endLine == cpos.line) = true := by rfl) (hs : starEach (e :: es) X.env = (false, eval e X.env) :: starEach es X.env := by rfl) (hplain : (backTo cpos (starEach es X.env)).any (·.1) = false := by rfl) (h : X.K = K := by rfl) :
    PE X (.Call (.Attribute o name apos) (e :: es) [] cpos) (tBM K T r to t) := by
  subst h
  exact pe_bm pa slot hty hm ho ha hbase hfew hline hs hplain
end
end K96
namespace K96
open PySem PySem.Spec PyProof.Rows L2
/-! ### the text by places (printed by gen.py) -/
def topS (i : Nat) : Stmt := PySem.Challenge.pw_stampgaps_k96_whole_breakings.main.body.getD i (.Pass ⟨0, 0, 0, 0⟩)
abbrev s_is_from_to : Stmt := topS 6
abbrev N_is_from_to : List Str := ["thing", "least", "most"]
theorem sc_is_from_to : FnScope N_is_from_to ["thing", "least", "most"] (defScope s_is_from_to) := ⟨rfl, rfl, rfl, by decide +kernel, rfl, by decide +kernel, by decide +kernel⟩
abbrev s_place_of : Stmt := topS 7
abbrev N_place_of : List Str := ["face", "thing", "place", "one"]
theorem sc_place_of : FnScope N_place_of ["face", "thing"] (defScope s_place_of) := ⟨rfl, rfl, rfl, by decide +kernel, rfl, by decide +kernel, by decide +kernel⟩
abbrev s_gap_in : Stmt := topS 8
abbrev N_gap_in : List Str := ["pairs", "left", "right", "one", "other", "gap"]
theorem sc_gap_in : FnScope N_gap_in ["pairs", "left", "right"] (defScope s_gap_in) := ⟨rfl, rfl, rfl, by decide +kernel, rfl, by decide +kernel, by decide +kernel⟩
abbrev s_is_sign : Stmt := topS 10
abbrev N_is_sign : List Str := ["face", "thing"]
theorem sc_is_sign : FnScope N_is_sign ["face", "thing"] (defScope s_is_sign) := ⟨rfl, rfl, rfl, by decide +kernel, rfl, by decide +kernel, by decide +kernel⟩
abbrev s_is_text : Stmt := topS 11
abbrev N_is_text : List Str := ["face", "thing", "sign"]
theorem sc_is_text : FnScope N_is_text ["face", "thing"] (defScope s_is_text) := ⟨rfl, rfl, rfl, by decide +kernel, rfl, by decide +kernel, by decide +kernel⟩
abbrev s_need_text : Stmt := topS 12
abbrev N_need_text : List Str := ["face", "thing"]
theorem sc_need_text : FnScope N_need_text ["face", "thing"] (defScope s_need_text) := ⟨rfl, rfl, rfl, by decide +kernel, rfl, by decide +kernel, by decide +kernel⟩
abbrev s_sign_width : Stmt := topS 13
abbrev N_sign_width : List Str := ["face", "sign"]
theorem sc_sign_width : FnScope N_sign_width ["face", "sign"] (defScope s_sign_width) := ⟨rfl, rfl, rfl, by decide +kernel, rfl, by decide +kernel, by decide +kernel⟩
abbrev s_between : Stmt := topS 14
abbrev N_between : List Str := ["pairs", "one", "other"]
theorem sc_between : FnScope N_between ["pairs", "one", "other"] (defScope s_between) := ⟨rfl, rfl, rfl, by decide +kernel, rfl, by decide +kernel, by decide +kernel⟩
abbrev s_begins_in : Stmt := topS 15
abbrev N_begins_in : List Str := ["face", "pairs", "text", "found", "here", "place", "sign"]
theorem sc_begins_in : FnScope N_begins_in ["face", "pairs", "text"] (defScope s_begins_in) := ⟨rfl, rfl, rfl, by decide +kernel, rfl, by decide +kernel, by decide +kernel⟩
abbrev s_wide_in : Stmt := topS 16
abbrev N_wide_in : List Str := ["face", "pairs", "text"]
theorem sc_wide_in : FnScope N_wide_in ["face", "pairs", "text"] (defScope s_wide_in) := ⟨rfl, rfl, rfl, by decide +kernel, rfl, by decide +kernel, by decide +kernel⟩
abbrev s_wide : Stmt := topS 17
abbrev N_wide : List Str := ["face", "pairs", "text"]
theorem sc_wide : FnScope N_wide ["face", "pairs", "text"] (defScope s_wide) := ⟨rfl, rfl, rfl, by decide +kernel, rfl, by decide +kernel, by decide +kernel⟩
abbrev s_words_of : Stmt := topS 20
abbrev N_words_of : List Str := ["face", "text", "words"]
theorem sc_words_of : FnScope N_words_of ["face", "text"] (defScope s_words_of) := ⟨rfl, rfl, rfl, by decide +kernel, rfl, by decide +kernel, by decide +kernel⟩
abbrev s_line_of : Stmt := topS 21
abbrev N_line_of : List Str := ["words", "first", "behind"]
theorem sc_line_of : FnScope N_line_of ["words", "first", "behind"] (defScope s_line_of) := ⟨rfl, rfl, rfl, by decide +kernel, rfl, by decide +kernel, by decide +kernel⟩
abbrev s_room_of : Stmt := topS 22
abbrev N_room_of : List Str := ["face", "pairs", "line", "number"]
theorem sc_room_of : FnScope N_room_of ["face", "pairs", "line", "number"] (defScope s_room_of) := ⟨rfl, rfl, rfl, by decide +kernel, rfl, by decide +kernel, by decide +kernel⟩
abbrev s_need_wide : Stmt := topS 23
abbrev N_need_wide : List Str := ["number"]
theorem sc_need_wide : FnScope N_need_wide ["number"] (defScope s_need_wide) := ⟨rfl, rfl, rfl, by decide +kernel, rfl, by decide +kernel, by decide +kernel⟩
abbrev s_need_words : Stmt := topS 24
abbrev N_need_words : List Str := ["face", "pairs", "text", "number", "words", "word"]
theorem sc_need_words : FnScope N_need_words ["face", "pairs", "text", "number"] (defScope s_need_words) := ⟨rfl, rfl, rfl, by decide +kernel, rfl, by decide +kernel, by decide +kernel⟩
abbrev s_filled : Stmt := topS 25
abbrev N_filled : List Str := ["face", "pairs", "text", "number", "words", "lines", "word"]
theorem sc_filled : FnScope N_filled ["face", "pairs", "text", "number"] (defScope s_filled) := ⟨rfl, rfl, rfl, by decide +kernel, rfl, by decide +kernel, by decide +kernel⟩
abbrev s_cost_in : Stmt := topS 26
abbrev N_cost_in : List Str := ["face", "pairs", "words", "ends", "number", "room"]
theorem sc_cost_in : FnScope N_cost_in ["face", "pairs", "words", "ends", "number"] (defScope s_cost_in) := ⟨rfl, rfl, rfl, by decide +kernel, rfl, by decide +kernel, by decide +kernel⟩
abbrev s_prices_of : Stmt := topS 27
abbrev N_prices_of : List Str := ["face", "pairs", "words", "number", "prices", "first", "best", "behind", "cost"]
theorem sc_prices_of : FnScope N_prices_of ["face", "pairs", "words", "number"] (defScope s_prices_of) := ⟨rfl, rfl, rfl, by decide +kernel, rfl, by decide +kernel, by decide +kernel⟩
abbrev s_evened : Stmt := topS 28
abbrev N_evened : List Str := ["face", "pairs", "text", "number", "words", "prices", "lines", "first", "behind", "cost"]
theorem sc_evened : FnScope N_evened ["face", "pairs", "text", "number"] (defScope s_evened) := ⟨rfl, rfl, rfl, by decide +kernel, rfl, by decide +kernel, by decide +kernel⟩
abbrev s_cost_of : Stmt := topS 29
abbrev N_cost_of : List Str := ["face", "pairs", "text", "number"]
theorem sc_cost_of : FnScope N_cost_of ["face", "pairs", "text", "number"] (defScope s_cost_of) := ⟨rfl, rfl, rfl, by decide +kernel, rfl, by decide +kernel, by decide +kernel⟩
abbrev s_shows_even : Stmt := topS 30
abbrev N_shows_even : List Str := ["face", "pairs", "text", "number"]
theorem sc_shows_even : FnScope N_shows_even ["face", "pairs", "text", "number"] (defScope s_shows_even) := ⟨rfl, rfl, rfl, by decide +kernel, rfl, by decide +kernel, by decide +kernel⟩
abbrev s_is_shown : Stmt := topS 31
abbrev N_is_shown : List Str := ["face", "pairs", "text", "number", "thing", "words", "first", "behind", "cost", "price"]
theorem sc_is_shown : FnScope N_is_shown ["face", "pairs", "text", "number", "thing"] (defScope s_is_shown) := ⟨rfl, rfl, rfl, by decide +kernel, rfl, by decide +kernel, by decide +kernel⟩
abbrev s_spread : Stmt := topS 32
abbrev N_spread : List Str := ["face", "pairs", "text", "number", "words", "room", "each", "left", "place"]
theorem sc_spread : FnScope N_spread ["face", "pairs", "text", "number"] (defScope s_spread) := ⟨rfl, rfl, rfl, by decide +kernel, rfl, by decide +kernel, by decide +kernel⟩
abbrev s_law_box : Stmt := topS 34
abbrev N_law_box : List Str := ["_law_script", "_law_k", "_law_cell"]
theorem sc_law_box : FnScope N_law_box ["_law_script", "_law_k"] (defScope s_law_box) := ⟨rfl, rfl, rfl, by decide +kernel, rfl, by decide +kernel, by decide +kernel⟩
abbrev s_law_take : Stmt := topS 35
abbrev N_law_take : List Str := ["_law_box_here", "_law_many", "_law_digit", "_law_high"]
theorem sc_law_take : FnScope N_law_take ["_law_box_here", "_law_many"] (defScope s_law_take) := ⟨rfl, rfl, rfl, by decide +kernel, rfl, by decide +kernel, by decide +kernel⟩
abbrev s_law_face : Stmt := topS 36
abbrev N_law_face : List Str := ["_law_box_here", "_law_least", "_law_most", "_law_pool", "_law_many", "_law_letters_here", "_law_turn"]
theorem sc_law_face : FnScope N_law_face ["_law_box_here", "_law_least", "_law_most"] (defScope s_law_face) := ⟨rfl, rfl, rfl, by decide +kernel, rfl, by decide +kernel, by decide +kernel⟩
abbrev s_law_letters : Stmt := topS 37
abbrev N_law_letters : List Str := ["_law_face_here", "_law_one"]
theorem sc_law_letters : FnScope N_law_letters ["_law_face_here"] (defScope s_law_letters) := ⟨rfl, rfl, rfl, by decide +kernel, rfl, by decide +kernel, by decide +kernel⟩
abbrev s_law_rows : Stmt := topS 38
abbrev N_law_rows : List Str := ["_law_box_here", "_law_many", "_law_firsts", "_law_seconds", "_law_near", "_law_gaps", "_law_rows_here", "_law_turn", "_law_place", "_law_first", "_law_second"]
theorem sc_law_rows : FnScope N_law_rows ["_law_box_here", "_law_many"] (defScope s_law_rows) := ⟨rfl, rfl, rfl, by decide +kernel, rfl, by decide +kernel, by decide +kernel⟩
abbrev s_law_list : Stmt := topS 39
abbrev N_law_list : List Str := ["_law_face_here", "_law_rows_here", "_law_letters_here", "_law_found", "_law_left", "_law_row", "_law_right", "_law_gap_here"]
theorem sc_law_list : FnScope N_law_list ["_law_face_here", "_law_rows_here"] (defScope s_law_list) := ⟨rfl, rfl, rfl, by decide +kernel, rfl, by decide +kernel, by decide +kernel⟩
abbrev s_law_pairs : Stmt := topS 40
abbrev N_law_pairs : List Str := ["_law_box_here", "_law_face_here"]
theorem sc_law_pairs : FnScope N_law_pairs ["_law_box_here", "_law_face_here"] (defScope s_law_pairs) := ⟨rfl, rfl, rfl, by decide +kernel, rfl, by decide +kernel, by decide +kernel⟩
abbrev s_law_gap : Stmt := topS 41
abbrev N_law_gap : List Str := ["_law_pairs_here", "_law_left", "_law_right", "_law_one", "_law_other", "_law_gap_here"]
theorem sc_law_gap : FnScope N_law_gap ["_law_pairs_here", "_law_left", "_law_right"] (defScope s_law_gap) := ⟨rfl, rfl, rfl, by decide +kernel, rfl, by decide +kernel, by decide +kernel⟩
abbrev s_law_words : Stmt := topS 42
abbrev N_law_words : List Str := ["_law_box_here", "_law_face_here", "_law_most", "_law_letters_here", "_law_words_here", "_law_turn", "_law_place"]
theorem sc_law_words : FnScope N_law_words ["_law_box_here", "_law_face_here", "_law_most"] (defScope s_law_words) := ⟨rfl, rfl, rfl, by decide +kernel, rfl, by decide +kernel, by decide +kernel⟩
abbrev s_law_wide : Stmt := topS 43
abbrev N_law_wide : List Str := ["_law_face_here", "_law_pairs_here", "_law_text", "_law_breadth", "_law_total", "_law_sign", "_law_one", "_law_other"]
theorem sc_law_wide : FnScope N_law_wide ["_law_face_here", "_law_pairs_here", "_law_text"] (defScope s_law_wide) := ⟨rfl, rfl, rfl, by decide +kernel, rfl, by decide +kernel, by decide +kernel⟩
abbrev s_law_room : Stmt := topS 44
abbrev N_law_room : List Str := ["_law_box_here", "_law_face_here", "_law_pairs_here", "_law_words_here", "_law_widest", "_law_word"]
theorem sc_law_room : FnScope N_law_room ["_law_box_here", "_law_face_here", "_law_pairs_here", "_law_words_here"] (defScope s_law_room) := ⟨rfl, rfl, rfl, by decide +kernel, rfl, by decide +kernel, by decide +kernel⟩
abbrev s_law_cost : Stmt := topS 45
abbrev N_law_cost : List Str := ["_law_face_here", "_law_pairs_here", "_law_lines", "_law_number", "_law_line"]
theorem sc_law_cost : FnScope N_law_cost ["_law_face_here", "_law_pairs_here", "_law_lines", "_law_number"] (defScope s_law_cost) := ⟨rfl, rfl, rfl, by decide +kernel, rfl, by decide +kernel, by decide +kernel⟩
abbrev s_law : Stmt := topS 46
abbrev N_law : List Str := ["_law_script", "_law_k", "_law_box_here", "_law_face_here", "_law_pairs_here", "_law_turn", "_law_words_here", "_law_number", "_law_text", "_law_even", "_law_full", "_law_lines", "_law_far", "_law_cost_here", "_law_prices", "_law_line", "_law_blanks", "_law_left"]
theorem sc_law : FnScope N_law ["_law_script"] (defScope s_law) := ⟨rfl, rfl, rfl, by decide +kernel, rfl, by decide +kernel, by decide +kernel⟩
/-- what the top has written -/
structure Tx (K : PySem.W.Frag) (mg : Str → Option Value) where
  a_is_from_to : Addr
  d_is_from_to : FuncData
  f_is_from_to : Fun K "is_from_to" "is_from_to" s_is_from_to a_is_from_to d_is_from_to
  b_is_from_to : Binds K d_is_from_to ["thing", "least", "most"] []
  g_is_from_to : mg "is_from_to" = some (.ref a_is_from_to)
  a_place_of : Addr
  d_place_of : FuncData
  f_place_of : Fun K "place_of" "place_of" s_place_of a_place_of d_place_of
  b_place_of : Binds K d_place_of ["face", "thing"] []
  g_place_of : mg "place_of" = some (.ref a_place_of)
  a_gap_in : Addr
  d_gap_in : FuncData
  f_gap_in : Fun K "gap_in" "gap_in" s_gap_in a_gap_in d_gap_in
  b_gap_in : Binds K d_gap_in ["pairs", "left", "right"] []
  g_gap_in : mg "gap_in" = some (.ref a_gap_in)
  a_is_sign : Addr
  d_is_sign : FuncData
  f_is_sign : Fun K "is_sign" "is_sign" s_is_sign a_is_sign d_is_sign
  b_is_sign : Binds K d_is_sign ["face", "thing"] []
  g_is_sign : mg "is_sign" = some (.ref a_is_sign)
  a_is_text : Addr
  d_is_text : FuncData
  f_is_text : Fun K "is_text" "is_text" s_is_text a_is_text d_is_text
  b_is_text : Binds K d_is_text ["face", "thing"] []
  g_is_text : mg "is_text" = some (.ref a_is_text)
  a_need_text : Addr
  d_need_text : FuncData
  f_need_text : Fun K "need_text" "need_text" s_need_text a_need_text d_need_text
  b_need_text : Binds K d_need_text ["face", "thing"] []
  g_need_text : mg "need_text" = some (.ref a_need_text)
  a_sign_width : Addr
  d_sign_width : FuncData
  f_sign_width : Fun K "sign_width" "sign_width" s_sign_width a_sign_width d_sign_width
  b_sign_width : Binds K d_sign_width ["face", "sign"] []
  g_sign_width : mg "sign_width" = some (.ref a_sign_width)
  a_between : Addr
  d_between : FuncData
  f_between : Fun K "between" "between" s_between a_between d_between
  b_between : Binds K d_between ["pairs", "one", "other"] []
  g_between : mg "between" = some (.ref a_between)
  a_begins_in : Addr
  d_begins_in : FuncData
  f_begins_in : Fun K "begins_in" "begins_in" s_begins_in a_begins_in d_begins_in
  b_begins_in : Binds K d_begins_in ["face", "pairs", "text"] []
  g_begins_in : mg "begins_in" = some (.ref a_begins_in)
  a_wide_in : Addr
  d_wide_in : FuncData
  f_wide_in : Fun K "wide_in" "wide_in" s_wide_in a_wide_in d_wide_in
  b_wide_in : Binds K d_wide_in ["face", "pairs", "text"] []
  g_wide_in : mg "wide_in" = some (.ref a_wide_in)
  a_wide : Addr
  d_wide : FuncData
  f_wide : Fun K "wide" "wide" s_wide a_wide d_wide
  b_wide : Binds K d_wide ["face", "pairs", "text"] []
  g_wide : mg "wide" = some (.ref a_wide)
  a_words_of : Addr
  d_words_of : FuncData
  f_words_of : Fun K "words_of" "words_of" s_words_of a_words_of d_words_of
  b_words_of : Binds K d_words_of ["face", "text"] []
  g_words_of : mg "words_of" = some (.ref a_words_of)
  a_line_of : Addr
  d_line_of : FuncData
  f_line_of : Fun K "line_of" "line_of" s_line_of a_line_of d_line_of
  b_line_of : Binds K d_line_of ["words", "first", "behind"] []
  g_line_of : mg "line_of" = some (.ref a_line_of)
  a_room_of : Addr
  d_room_of : FuncData
  f_room_of : Fun K "room_of" "room_of" s_room_of a_room_of d_room_of
  b_room_of : Binds K d_room_of ["face", "pairs", "line", "number"] []
  g_room_of : mg "room_of" = some (.ref a_room_of)
  a_need_wide : Addr
  d_need_wide : FuncData
  f_need_wide : Fun K "need_wide" "need_wide" s_need_wide a_need_wide d_need_wide
  b_need_wide : Binds K d_need_wide ["number"] []
  g_need_wide : mg "need_wide" = some (.ref a_need_wide)
  a_need_words : Addr
  d_need_words : FuncData
  f_need_words : Fun K "need_words" "need_words" s_need_words a_need_words d_need_words
  b_need_words : Binds K d_need_words ["face", "pairs", "text", "number"] []
  g_need_words : mg "need_words" = some (.ref a_need_words)
  a_filled : Addr
  d_filled : FuncData
  f_filled : Fun K "filled" "filled" s_filled a_filled d_filled
  b_filled : Binds K d_filled ["face", "pairs", "text", "number"] []
  g_filled : mg "filled" = some (.ref a_filled)
  a_cost_in : Addr
  d_cost_in : FuncData
  f_cost_in : Fun K "cost_in" "cost_in" s_cost_in a_cost_in d_cost_in
  b_cost_in : Binds K d_cost_in ["face", "pairs", "words", "ends", "number"] []
  g_cost_in : mg "cost_in" = some (.ref a_cost_in)
  a_prices_of : Addr
  d_prices_of : FuncData
  f_prices_of : Fun K "prices_of" "prices_of" s_prices_of a_prices_of d_prices_of
  b_prices_of : Binds K d_prices_of ["face", "pairs", "words", "number"] []
  g_prices_of : mg "prices_of" = some (.ref a_prices_of)
  a_evened : Addr
  d_evened : FuncData
  f_evened : Fun K "evened" "evened" s_evened a_evened d_evened
  b_evened : Binds K d_evened ["face", "pairs", "text", "number"] []
  g_evened : mg "evened" = some (.ref a_evened)
  a_cost_of : Addr
  d_cost_of : FuncData
  f_cost_of : Fun K "cost_of" "cost_of" s_cost_of a_cost_of d_cost_of
  b_cost_of : Binds K d_cost_of ["face", "pairs", "text", "number"] []
  g_cost_of : mg "cost_of" = some (.ref a_cost_of)
  a_shows_even : Addr
  d_shows_even : FuncData
  f_shows_even : Fun K "shows_even" "shows_even" s_shows_even a_shows_even d_shows_even
  b_shows_even : Binds K d_shows_even ["face", "pairs", "text", "number"] []
  g_shows_even : mg "shows_even" = some (.ref a_shows_even)
  a_is_shown : Addr
  d_is_shown : FuncData
  f_is_shown : Fun K "is_shown" "is_shown" s_is_shown a_is_shown d_is_shown
  b_is_shown : Binds K d_is_shown ["face", "pairs", "text", "number", "thing"] []
  g_is_shown : mg "is_shown" = some (.ref a_is_shown)
  a_spread : Addr
  d_spread : FuncData
  f_spread : Fun K "spread" "spread" s_spread a_spread d_spread
  b_spread : Binds K d_spread ["face", "pairs", "text", "number"] []
  g_spread : mg "spread" = some (.ref a_spread)
  a_law_box : Addr
  d_law_box : FuncData
  f_law_box : Fun K "_law_box" "_law_box" s_law_box a_law_box d_law_box
  b_law_box : Binds K d_law_box ["_law_script", "_law_k"] []
  g_law_box : mg "_law_box" = some (.ref a_law_box)
  a_law_take : Addr
  d_law_take : FuncData
  f_law_take : Fun K "_law_take" "_law_take" s_law_take a_law_take d_law_take
  b_law_take : Binds K d_law_take ["_law_box_here", "_law_many"] []
  g_law_take : mg "_law_take" = some (.ref a_law_take)
  a_law_face : Addr
  d_law_face : FuncData
  f_law_face : Fun K "_law_face" "_law_face" s_law_face a_law_face d_law_face
  b_law_face : Binds K d_law_face ["_law_box_here", "_law_least", "_law_most"] []
  g_law_face : mg "_law_face" = some (.ref a_law_face)
  a_law_letters : Addr
  d_law_letters : FuncData
  f_law_letters : Fun K "_law_letters" "_law_letters" s_law_letters a_law_letters d_law_letters
  b_law_letters : Binds K d_law_letters ["_law_face_here"] []
  g_law_letters : mg "_law_letters" = some (.ref a_law_letters)
  a_law_rows : Addr
  d_law_rows : FuncData
  f_law_rows : Fun K "_law_rows" "_law_rows" s_law_rows a_law_rows d_law_rows
  b_law_rows : Binds K d_law_rows ["_law_box_here", "_law_many"] []
  g_law_rows : mg "_law_rows" = some (.ref a_law_rows)
  a_law_list : Addr
  d_law_list : FuncData
  f_law_list : Fun K "_law_list" "_law_list" s_law_list a_law_list d_law_list
  b_law_list : Binds K d_law_list ["_law_face_here", "_law_rows_here"] []
  g_law_list : mg "_law_list" = some (.ref a_law_list)
  a_law_pairs : Addr
  d_law_pairs : FuncData
  f_law_pairs : Fun K "_law_pairs" "_law_pairs" s_law_pairs a_law_pairs d_law_pairs
  b_law_pairs : Binds K d_law_pairs ["_law_box_here", "_law_face_here"] []
  g_law_pairs : mg "_law_pairs" = some (.ref a_law_pairs)
  a_law_gap : Addr
  d_law_gap : FuncData
  f_law_gap : Fun K "_law_gap" "_law_gap" s_law_gap a_law_gap d_law_gap
  b_law_gap : Binds K d_law_gap ["_law_pairs_here", "_law_left", "_law_right"] []
  g_law_gap : mg "_law_gap" = some (.ref a_law_gap)
  a_law_words : Addr
  d_law_words : FuncData
  f_law_words : Fun K "_law_words" "_law_words" s_law_words a_law_words d_law_words
  b_law_words : Binds K d_law_words ["_law_box_here", "_law_face_here", "_law_most"] []
  g_law_words : mg "_law_words" = some (.ref a_law_words)
  a_law_wide : Addr
  d_law_wide : FuncData
  f_law_wide : Fun K "_law_wide" "_law_wide" s_law_wide a_law_wide d_law_wide
  b_law_wide : Binds K d_law_wide ["_law_face_here", "_law_pairs_here", "_law_text"] []
  g_law_wide : mg "_law_wide" = some (.ref a_law_wide)
  a_law_room : Addr
  d_law_room : FuncData
  f_law_room : Fun K "_law_room" "_law_room" s_law_room a_law_room d_law_room
  b_law_room : Binds K d_law_room ["_law_box_here", "_law_face_here", "_law_pairs_here", "_law_words_here"] []
  g_law_room : mg "_law_room" = some (.ref a_law_room)
  a_law_cost : Addr
  d_law_cost : FuncData
  f_law_cost : Fun K "_law_cost" "_law_cost" s_law_cost a_law_cost d_law_cost
  b_law_cost : Binds K d_law_cost ["_law_face_here", "_law_pairs_here", "_law_lines", "_law_number"] []
  g_law_cost : mg "_law_cost" = some (.ref a_law_cost)
  g_MOST_WIDE : ∃ t, mg "MOST_WIDE" = some (.int 999 t)
  z_isinstance : mg "isinstance" = none
  z_len : mg "len" = none
  z_all : mg "all" = none
  z_divmod : mg "divmod" = none
  z_abs : mg "abs" = none
  z_sum : mg "sum" = none
  z_max : mg "max" = none
  z_min : mg "min" = none
  z_list : mg "list" = none
  z_tuple : mg "tuple" = none
  z_dict : mg "dict" = none
  z_int : mg "int" = none
  z_str : mg "str" = none
  z_bool : mg "bool" = none
  z_range : mg "range" = none
  z_enumerate : mg "enumerate" = none
  z_zip : mg "zip" = none
  z_reversed : mg "reversed" = none
end K96
/-! What stands in the heap: faces, lists of pairs; the plain functions of the program's small defs. -/
namespace K96
open PySem PySem.Spec PyProof.Rows L2 Evl

abbrev sx (l : List Nat) : Str := ⟨l.toArray⟩
theorem sx_inj {a b : List Nat} (h : sx a = sx b) : a = b := by
  have := congrArg (fun z : Str => z.cps.toList) h
  simpa [sx] using this
theorem sx_dec (a b : List Nat) : decide ((V.str (sx a)) = V.str (sx b)) = decide (a = b) := by
  by_cases e : a = b
  · subst e; simp
  · rw [decide_eq_false e, decide_eq_false]
    intro q
    exact e (sx_inj (V.str.inj q))

/-! ### rows of tuples -/
/-- the tuple at a holds tuples, whose items are given by g -/
def TupsAt {α : Type} (g : α → List V) (H : Hp) (a : Addr) (ls : List α) : Prop :=
  ∃ rs : List Addr, H a = some (.tup (rs.map V.ref)) ∧ rs.length = ls.length ∧ ∀ (i : Nat) (r : Addr) (x : α), rs[i]? = some r → ls[i]? = some x → H r = some (.tup (g x))
theorem TupsAt.mono {α : Type} {g : α → List V} {H H' : Hp} {a : Addr} {ls : List α} (e : Ex H H') (h : TupsAt g H a ls) : TupsAt g H' a ls := by
  obtain ⟨rs, h1, h2, h3⟩ := h
  exact ⟨rs, e _ _ h1, h2, fun i r x a b => e _ _ (h3 i r x a b)⟩
def ltV (p : Nat × Int) : List V := [.str (sx [p.1]), .int p.2]
def prV (p : Nat × Nat × Int) : List V := [.str (sx [p.1]), .str (sx [p.2.1]), .int p.2.2]
def FaceAt (H : Hp) (f : Addr) (b : Int) (ls : List (Nat × Int)) : Prop := ∃ q, H f = some (.tup [.int b, .ref q]) ∧ TupsAt ltV H q ls
def PairsAt (H : Hp) (p : Addr) (ps : List (Nat × Nat × Int)) : Prop := TupsAt prV H p ps
theorem FaceAt.mono {H H' : Hp} {f : Addr} {b : Int} {ls : List (Nat × Int)} (e : Ex H H') (h : FaceAt H f b ls) : FaceAt H' f b ls := by
  obtain ⟨q, h1, h2⟩ := h
  exact ⟨q, e _ _ h1, h2.mono e⟩
theorem PairsAt.mono {H H' : Hp} {p : Addr} {ps : List (Nat × Nat × Int)} (e : Ex H H') (h : PairsAt H p ps) : PairsAt H' p ps := TupsAt.mono e h

/-! ### the plain functions -/
/-- the place of a sign, from k on -/
def plc (ls : List (Nat × Int)) (c : Nat) : Option Nat := ls.findIdx? fun p => p.1 == c
def encN : Option Nat → V
  | none => .non
  | some i => .int (i : Int)
def encI : Option Int → V
  | none => .non
  | some i => .int i
def okc (ls : List (Nat × Int)) (c : Nat) : Bool := c == 32 || (plc ls c).isSome
def swd (b : Int) (ls : List (Nat × Int)) (c : Nat) : Int := if c = 32 then b else match plc ls c with
  | none => 0
  | some i => (ls.getD i (0, 0)).2
def gap (ps : List (Nat × Nat × Int)) (a c : Nat) : Int := match ps.find? (fun p => p.1 == a && p.2.1 == c) with
  | none => 0
  | some p => p.2.2
def btw (ps : List (Nat × Nat × Int)) (a c : Nat) : Int := if a = 32 ∨ c = 32 then 0 else gap ps a c
abbrev Wd (b : Int) (ls : List (Nat × Int)) (ps : List (Nat × Nat × Int)) : List Nat → Int := W (swd b ls) (btw ps)

/-- a value, the heap only grown -/
abbrev RV1 (v : V) (H : Hp) (Q : VK) : Prop := ∀ H2, Ex H H2 → Q v H2
/-- a new list, a new tuple -/
abbrev RL1 (xs : List V) (H : Hp) (Q : VK) : Prop := ∀ p H2, H p = none → Ex H H2 → H2 p = some (.lst xs) → Q (.ref p) H2
abbrev RT1 (xs : List V) (H : Hp) (Q : VK) : Prop := ∀ p H2, H p = none → Ex H H2 → H2 p = some (.tup xs) → Q (.ref p) H2
theorem ex_new {H : Hp} {p : Addr} {o : HO} (h : H p = none) : Ex H (upd H p o) := Ex.new h
theorem one {α : Type} {x : α} : ∀ {l : List α}, l.length = 1 → l[0]? = some x → l = [x]
  | [y], _, h => by cases h; rfl

theorem plc_go {ls : List (Nat × Int)} {c i : Nat} {x : Nat × Int} (h : ls[i]? = some x) (he : x.1 = c) (hb : ∀ j, j < i → ∀ y, ls[j]? = some y → y.1 ≠ c) : plc ls c = some i := by
  unfold plc
  rw [List.findIdx?_eq_some_iff_findIdx_eq]
  obtain ⟨hi, e⟩ := List.getElem?_eq_some_iff.mp h
  refine ⟨hi, ?_⟩
  refine Nat.le_antisymm ?_ ?_
  · refine Nat.le_of_not_lt fun hlt => ?_
    have := List.not_of_lt_findIdx hlt
    rw [e] at this
    simp [he] at this
  · refine Nat.le_of_not_lt fun hlt => ?_
    have q := List.findIdx_getElem (xs := ls) (p := fun p => p.1 == c) (w := by omega)
    simp only [beq_iff_eq] at q
    exact hb _ hlt _ (List.getElem?_eq_getElem (by omega)) q
theorem plc_no {ls : List (Nat × Int)} {c : Nat} (hb : ∀ j, j < ls.length → ∀ y, ls[j]? = some y → y.1 ≠ c) : plc ls c = none := by
  unfold plc
  rw [List.findIdx?_eq_none_iff]
  intro x hx
  obtain ⟨j, hj, e⟩ := List.mem_iff_getElem.mp hx
  have := hb j hj x (by rw [List.getElem?_eq_getElem hj, e])
  simpa using this
end K96
namespace K96
open PySem PySem.Spec PyProof.Rows L2 Evl
section
variable {P : Program} {w : World} {K : PySem.W.Frag} {mg : Str → Option Value} {base : Heap}
def sp_place_of : Sp := fun vs H Q _ => ∃ f b ls c, vs = [.ref f, .str (sx [c])] ∧ FaceAt H f b ls ∧ RV1 (encN (plc ls c)) H Q
theorem ok_place_of (T : Tx K mg) : FnOk P w K mg base CX0 1 T.a_place_of T.d_place_of ["face", "thing"] sp_place_of := by
  refine T.f_place_of.ok sc_place_of (fun vs H Q E h => ?_) (fun cdv A outer s H vs Q E hr h => ?_)
  · obtain ⟨f, b, ls, c, rfl, _⟩ := h
    rfl
  · obtain ⟨f, b, ls, c, rfl, ⟨q, hF, rs, hq, hlen, hrs⟩, k⟩ := h
    refine ⟨_,       (pss_cons (ps_for PassesOwn.never rfl (pi_enumT (by rfl) T.z_enumerate (pa_cons (pe_ix ix_tup (pv 0) pe_int (fun _ _ => rfl)) pa_nil)) (pg_tup rfl (pgs_cons (pg_name (i := 2) sc_place_of.nd rfl (.inl rfl)) (pgs_cons (pg_name (i := 3) sc_place_of.nd rfl (.inl rfl)) pgs_nil))) 
        (pss_one (ps_if (pt_cmpR op_eq (pe_ix ix_tup (pv 3) pe_int (fun _ _ => rfl)) (pv 1) (nomark _)) 
          (pss_one (ps_ret (pv 2))) pss_nil)))
      (pss_one (ps_ret pe_non))), ?_⟩
    refine ⟨.ref f, rfl, f, _, 1, .ref q, rfl, rfl, SqT.of hF, rfl, q, rs.map V.ref, rfl, SqT.of hq, ?_⟩
    refine for_it walk_itp (fun i σ H' => ∃ y2 y3, σ = [some (.ref f), some (.str (sx [c])), y2, y3] ∧ Ex H H' ∧ ∀ j, j < i → ∀ y, ls[j]? = some y → y.1 ≠ c)
      ⟨none, none, rfl, Ex.refl H, fun j hj => absurd hj (Nat.not_lt_zero _)⟩ (fun i σ H' _ ⟨_, _, _, e, _⟩ => SqT.of (e _ _ hq)) ?_ ?_
    · rintro i x σ H1 H2 hi ⟨y2, y3, rfl, e, hb⟩ ⟨Tp, rfl, nT, rfl⟩
      rw [List.length_map] at hi
      have g1 : rs[i]? = some rs[i] := List.getElem?_eq_getElem hi
      have hil : i < ls.length := by omega
      have g2 : ls[i]? = some ls[i] := List.getElem?_eq_getElem hil
      have ei : itmV (rs.map V.ref) i = .ref rs[i] := by
        unfold itmV
        rw [List.getD_eq_getElem?_getD, List.getElem?_map, g1]
        rfl
      rw [ei]
      have e2 : Ex H (upd H1 Tp (.tup [nat2 i, .ref rs[i]])) := e.trans (ex_new nT)
      refine ⟨Tp, _, rfl, SqT.of upd_same, rfl, nat2 i, [.ref rs[i]], rfl, .ref rs[i], [], rfl, rfl, ?_⟩
      refine ⟨.ref rs[i], rfl, rs[i], ltV ls[i], 0, .str (sx [ls[i].1]), rfl, rfl, SqT.of (e2 _ _ (hrs i _ _ g1 g2)), rfl, .str (sx [c]), rfl, rfl, _, rfl, ?_⟩
      rw [sx_dec]
      refine ite2 (fun h => ?_) (fun h => ?_)
      · have hc : ls[i].1 = c := by
          have := of_decide_eq_true h
          simpa using this
        refine ⟨nat2 i, rfl, ?_⟩
        have ep : plc ls c = some i := plc_go g2 hc hb
        rw [ep] at k
        exact k _ e2
      · refine ⟨_, _, rfl, e2, fun j hj y hy => ?_⟩
        by_cases ej : j = i
        · subst ej
          rw [g2] at hy
          cases hy
          intro z
          exact h (decide_eq_true (by rw [z]))
        · exact hb j (by omega) y hy
    · rintro σ H1 ⟨y2, y3, rfl, e, hb⟩
      rw [List.length_map] at hb
      have ep : plc ls c = none := plc_no fun j hj => hb j (by omega)
      rw [ep] at k
      exact k _ e
end
end K96
namespace K96
open PySem PySem.Spec PyProof.Rows L2 Evl
theorem blk_eq : (Str.ofString " ") = sx [32] := by decide +kernel
theorem blk_dec (c : Nat) : decide (V.str (sx [c]) = V.str (Str.ofString " ")) = decide (c = 32) := by
  rw [blk_eq, sx_dec]
  simp
theorem gap_go {ps : List (Nat × Nat × Int)} {a c i : Nat} {x : Nat × Nat × Int} (h : ps[i]? = some x) (h1 : x.1 = a) (h2 : x.2.1 = c) (hb : ∀ j, j < i → ∀ y, ps[j]? = some y → ¬ (y.1 = a ∧ y.2.1 = c)) : gap ps a c = x.2.2 := by
  have e : ps.find? (fun p => p.1 == a && p.2.1 == c) = some x := by
    rw [List.find?_eq_some_iff_getElem]
    obtain ⟨hi, e⟩ := List.getElem?_eq_some_iff.mp h
    refine ⟨by simp [h1, h2], i, hi, e, fun j hj => ?_⟩
    have := hb j hj _ (List.getElem?_eq_getElem (by omega))
    simp only [Bool.not_eq_true', Bool.and_eq_false_iff, beq_eq_false_iff_ne]
    by_cases q : ps[j].1 = a
    · exact .inr fun z => this ⟨q, z⟩
    · exact .inl q
  unfold gap
  rw [e]
theorem gap_no {ps : List (Nat × Nat × Int)} {a c : Nat} (hb : ∀ j, j < ps.length → ∀ y, ps[j]? = some y → ¬ (y.1 = a ∧ y.2.1 = c)) : gap ps a c = 0 := by
  have e : ps.find? (fun p => p.1 == a && p.2.1 == c) = none := by
    rw [List.find?_eq_none]
    intro x hx
    obtain ⟨j, hj, e⟩ := List.mem_iff_getElem.mp hx
    have := hb j hj x (by rw [List.getElem?_eq_getElem hj, e])
    simpa using this
  unfold gap
  rw [e]
/-- a row of tuples, by the i-th -/
theorem row_at {rs : List Addr} {i : Nat} (h : i < rs.length) : (rs.map V.ref)[i]? = some (V.ref rs[i]) := by
  rw [List.getElem?_map, List.getElem?_eq_getElem h]
  rfl
section
variable {P : Program} {w : World} {K : PySem.W.Frag} {mg : Str → Option Value} {base : Heap}
def sp_gap_in : Sp := fun vs H Q _ => ∃ p ps a c, vs = [.ref p, .str (sx [a]), .str (sx [c])] ∧ PairsAt H p ps ∧ RV1 (.int (gap ps a c)) H Q
theorem ok_gap_in (T : Tx K mg) : FnOk P w K mg base CX0 1 T.a_gap_in T.d_gap_in ["pairs", "left", "right"] sp_gap_in := by
  refine T.f_gap_in.ok sc_gap_in (fun vs H Q E h => ?_) (fun cdv A outer s H vs Q E hr h => ?_)
  · obtain ⟨p, ps, a, c, rfl, _⟩ := h
    rfl
  · obtain ⟨p, ps, a, c, rfl, ⟨rs, hp, hlen, hrs⟩, k⟩ := h
    refine ⟨_,       (pss_cons (ps_for PassesOwn.never rfl (pi_tup (pv 0)) (pg_tup rfl (pgs_cons (pg_name (i := 3) sc_gap_in.nd rfl (.inl rfl)) (pgs_cons (pg_name (i := 4) sc_gap_in.nd rfl (.inl rfl)) (pgs_cons (pg_name (i := 5) sc_gap_in.nd rfl (.inl rfl)) pgs_nil)))) 
        (pss_one (ps_if (PW.pt (pw_and (pt_cmpR op_eq (pv 3) (pv 1) (nomark _)) (pw_and1 (pt_cmpR op_eq (pv 4) (pv 2) (nomark _))))) 
          (pss_one (ps_ret (pv 5))) pss_nil)))
      (pss_one (ps_ret pe_int))), ?_⟩
    refine ⟨.ref p, rfl, p, rfl, ⟨_, SqT.of hp⟩, ?_⟩
    refine for_it walk_tup (fun i σ H' => ∃ y3 y4 y5, σ = [some (.ref p), some (.str (sx [a])), some (.str (sx [c])), y3, y4, y5] ∧ Ex H H' ∧ ∀ j, j < i → ∀ y, ps[j]? = some y → ¬ (y.1 = a ∧ y.2.1 = c))
      ⟨none, none, none, rfl, Ex.refl H, fun j hj => absurd hj (Nat.not_lt_zero _)⟩ (fun i σ H' _ ⟨_, _, _, _, e, _⟩ => SqT.of (e _ _ hp)) ?_ ?_
    · rintro i x σ H1 H2 hi ⟨y3, y4, y5, rfl, e, hb⟩ ⟨rfl, hx⟩
      rw [List.length_map] at hi
      rw [row_at hi] at hx
      cases hx
      have g1 : rs[i]? = some rs[i] := List.getElem?_eq_getElem hi
      have g2 : ps[i]? = some ps[i] := List.getElem?_eq_getElem (by omega)
      have hr0 := e _ _ (hrs i _ _ g1 g2)
      refine ⟨rs[i], prV ps[i], rfl, SqT.of hr0, rfl, _, _, rfl, _, _, rfl, _, _, rfl, rfl, ?_⟩
      have miss : ¬ (ps[i].1 = a ∧ ps[i].2.1 = c) → ∀ j, j < i + 1 → ∀ y, ps[j]? = some y → ¬ (y.1 = a ∧ y.2.1 = c) := fun h j hj y hy => by
        by_cases ej : j = i
        · subst ej
          rw [g2] at hy
          cases hy
          exact h
        · exact hb j (by omega) y hy
      refine ⟨_, rfl, _, rfl, rfl, _, rfl, ?_⟩
      rw [sx_dec]
      refine ite2 (fun h1 => ?_) (fun h1 => ?_)
      · have c1 : ps[i].1 = a := by simpa using of_decide_eq_true h1
        refine ⟨_, rfl, _, rfl, rfl, _, rfl, ?_⟩
        rw [sx_dec]
        refine ite2 (fun h2 => ?_) (fun h2 => ?_)
        · have c2 : ps[i].2.1 = c := by simpa using of_decide_eq_true h2
          refine ⟨_, rfl, ?_⟩
          rw [gap_go g2 c1 c2 hb] at k
          exact k _ e
        · refine ⟨_, _, _, rfl, e, miss fun z => h2 (decide_eq_true (by rw [z.2]))⟩
      · show if false = true then _ else _
        refine iteF ⟨_, _, _, rfl, e, miss fun z => h1 (decide_eq_true (by rw [z.1]))⟩
    · rintro σ H1 ⟨y3, y4, y5, rfl, e, hb⟩
      rw [List.length_map] at hb
      rw [gap_no fun j hj => hb j (by omega)] at k
      exact k _ e
def sp_is_sign : Sp := fun vs H Q _ => ∃ f b ls c, vs = [.ref f, .str (sx [c])] ∧ FaceAt H f b ls ∧ RV1 (.bl (okc ls c)) H Q
theorem ok_is_sign (T : Tx K mg) : FnOk P w K mg base CX0 2 T.a_is_sign T.d_is_sign ["face", "thing"] sp_is_sign := by
  have G_place_of : FnOk P w K mg base CX0 1 T.a_place_of T.d_place_of ["face", "thing"] sp_place_of := ok_place_of T
  refine T.f_is_sign.ok sc_is_sign (fun vs H Q E h => ?_) (fun cdv A outer s H vs Q E hr h => ?_)
  · obtain ⟨f, b, ls, c, rfl, _⟩ := h
    rfl
  · obtain ⟨f, b, ls, c, rfl, hF, k⟩ := h
    refine ⟨_,       (pss_one (ps_ret (pe_or (pe_cmpR op_eq (pv 1) pe_str (nomark _)) (pe_one (pe_cmpR op_notN (pe_call G_place_of (hr.mono (by decide)) (by rfl) T.g_place_of T.f_place_of.kp T.b_place_of .nil pass0 (pa_cons (pv 0) (pa_cons (pv 1) pa_nil))) pe_non (nomark _)))))), ?_⟩
    refine ⟨_, rfl, rfl, _, rfl, ?_⟩
    rw [show decide (V.str (sx [c]) = V.str _) = decide (c = 32) from blk_dec c]
    refine ite2 (fun h1 => ?_) (fun h1 => ?_)
    · have c1 : c = 32 := by simpa using h1
      have e : okc ls c = true := by simp [okc, c1]
      rw [e] at k
      exact k _ (Ex.refl _)
    · have c1 : ¬ c = 32 := by simpa using h1
      refine ⟨_, rfl, _, rfl, f, b, ls, c, rfl, hF, fun H2 e2 => ⟨rfl, ?_⟩⟩
      have e : okc ls c = !decide (encN (plc ls c) = V.non) := by
        unfold okc
        rw [show (c == 32) = false by simp [c1], Bool.false_or]
        cases plc ls c <;> rfl
      rw [← e]
      exact k _ e2
def tok (ls : List (Nat × Int)) (t : List Nat) : Prop := (∀ c ∈ t, okc ls c = true) ∧ t.length ≤ 1000
def sp_is_text : Sp := fun vs H Q _ => ∃ f b ls t, vs = [.ref f, .str (sx t)] ∧ FaceAt H f b ls ∧ tok ls t ∧ RV1 (.bl true) H Q
theorem ok_is_text (T : Tx K mg) : FnOk P w K mg base CX0 3 T.a_is_text T.d_is_text ["face", "thing"] sp_is_text := by
  have G_is_sign : FnOk P w K mg base CX0 2 T.a_is_sign T.d_is_sign ["face", "thing"] sp_is_sign := ok_is_sign T
  refine T.f_is_text.ok sc_is_text (fun vs H Q E h => ?_) (fun cdv A outer s H vs Q E hr h => ?_)
  · obtain ⟨f, b, ls, t, rfl, _⟩ := h
    rfl
  · obtain ⟨f, b, ls, t, rfl, hF, ⟨ht, hz⟩, k⟩ := h
    refine ⟨_,       (pss_one (ps_ret (pe_and (pe_callB call_isi (by rfl) T.z_isinstance (by decide +kernel) (pa_cons (pv 1) (pa_cons (pe_bltn (v := .ty "str") (by rfl) T.z_str (by decide +kernel) rfl) pa_nil))) (pe_one (pe_callB (cr_all rfl) (by rfl) T.z_all (by decide +kernel) (pa_cons (pe_lc (own := [("sign", 2)]) (g := gName 2) (tt := tYes) rfl sc_is_text.nd (pi_str (pv 1)) (blkOk_by (own := [("sign", 2)]) (N := N_is_text) (sc := defScope s_is_text) (by decide +kernel)) (fun _ _ _ _ _ => (pg_name (i := 2) sc_is_text.nd rfl (.inl rfl))) (fun _ _ _ _ _ => pts_nil) (fun _ _ _ _ _ => (pe_call G_is_sign (hr.mono (by decide)) (by rfl) T.g_is_sign T.f_is_sign.kp T.b_is_sign .nil pass0 (pa_cons (pv 0) (pa_cons (pv 2) pa_nil))))) pa_nil)))))), ?_⟩
    refine ⟨_, rfl, _, _, .type "str", _, true, rfl, .ty _, .base (.str _), kit_ty (by decide +kernel), true, rfl, ?_⟩
    refine iteT ⟨.str (sx t), rfl, sx t, rfl, fun D hD => ?_⟩
    refine lc_it walk_str (fun i H' => Ex H H' ∧ H' D = some (.lst ((List.replicate i true).map V.bl))) ⟨ex_new hD, upd_same⟩ (fun _ _ _ _ => trivial) ?_ ?_
    · rintro i x H1 H2 hi ⟨e, hL⟩ ⟨rfl, c, hc, rfl⟩
      have hi' : i < t.length := by simpa [sx] using hi
      have hm : c ∈ t := by
        have : t[i]? = some c := by simpa [sx] using hc
        exact List.mem_of_getElem? this
      refine ⟨rfl, .ref f, rfl, _, rfl, f, b, ls, c, rfl, hF.mono e, fun H3 e3 => ⟨_, e3 _ _ hL, ?_, (e.trans e3).mut hD, ?_⟩⟩
      · rw [List.length_map, List.length_replicate]
        exact small1000 (by omega)
      · rw [upd_same, ht c hm, List.replicate_succ', List.map_append]
        rfl
    · rintro H1 ⟨e, hL⟩
      refine ⟨D, _, rfl, SqL.of hL, ?_⟩
      rw [show ((List.replicate (sx t).cps.size true).all id) = true by simp]
      exact k _ e
def sp_need_text : Sp := fun vs H Q _ => ∃ f b ls t, vs = [.ref f, .str (sx t)] ∧ FaceAt H f b ls ∧ tok ls t ∧ RV1 .non H Q
theorem ok_need_text (T : Tx K mg) : FnOk P w K mg base CX0 4 T.a_need_text T.d_need_text ["face", "thing"] sp_need_text := by
  have G_is_text : FnOk P w K mg base CX0 3 T.a_is_text T.d_is_text ["face", "thing"] sp_is_text := ok_is_text T
  refine T.f_need_text.ok sc_need_text (fun vs H Q E h => ?_) (fun cdv A outer s H vs Q E hr h => ?_)
  · obtain ⟨f, b, ls, t, rfl, _⟩ := h
    rfl
  · obtain ⟨f, b, ls, t, rfl, hF, ht, k⟩ := h
    refine ⟨_,       (pss_one (ps_if (pt_not (pt_val (pe_call G_is_text (hr.mono (by decide)) (by rfl) T.g_is_text T.f_is_text.kp T.b_is_text .nil pass0 (pa_cons (pv 0) (pa_cons (pv 1) pa_nil))))) 
        (pss_one ps_never) pss_nil)), ?_⟩
    refine ⟨_, rfl, _, rfl, f, b, ls, t, rfl, hF, ht, fun H1 e1 => ⟨true, rfl, ?_⟩⟩
    exact iteF (k _ e1)
def sp_sign_width : Sp := fun vs H Q _ => ∃ f b ls c, vs = [.ref f, .str (sx [c])] ∧ FaceAt H f b ls ∧ okc ls c = true ∧ RV1 (.int (swd b ls c)) H Q
theorem ok_sign_width (T : Tx K mg) : FnOk P w K mg base CX0 2 T.a_sign_width T.d_sign_width ["face", "sign"] sp_sign_width := by
  have G_place_of : FnOk P w K mg base CX0 1 T.a_place_of T.d_place_of ["face", "thing"] sp_place_of := ok_place_of T
  refine T.f_sign_width.ok sc_sign_width (fun vs H Q E h => ?_) (fun cdv A outer s H vs Q E hr h => ?_)
  · obtain ⟨f, b, ls, c, rfl, _⟩ := h
    rfl
  · obtain ⟨f, b, ls, c, rfl, hF, hok, k⟩ := h
    refine ⟨_,       (pss_cons (ps_if (pt_cmpR op_eq (pv 1) pe_str (nomark _)) 
        (pss_one (ps_ret (pe_ix ix_tup (pv 0) pe_int (fun _ _ => rfl)))) pss_nil)
      (pss_one (ps_ret (pe_ix ix_tup (pe_ix ix_tup (pe_ix ix_tup (pv 0) pe_int (fun _ _ => rfl)) (pe_call G_place_of (hr.mono (by decide)) (by rfl) T.g_place_of T.f_place_of.kp T.b_place_of .nil pass0 (pa_cons (pv 0) (pa_cons (pv 1) pa_nil))) (fun _ _ => rfl)) pe_int (fun _ _ => rfl))))), ?_⟩
    obtain ⟨q, h1, rs, hq, hlen, hrs⟩ := id hF
    refine ⟨_, rfl, rfl, _, rfl, ?_⟩
    rw [show decide (V.str (sx [c]) = V.str _) = decide (c = 32) from blk_dec c]
    refine ite2 (fun h2 => ?_) (fun h2 => ?_)
    · have c1 : c = 32 := by simpa using h2
      refine ⟨_, rfl, f, _, 0, .int b, rfl, rfl, SqT.of h1, rfl, ?_⟩
      have e : swd b ls c = b := if_pos c1
      rw [e] at k
      exact k _ (Ex.refl _)
    · have c1 : ¬ c = 32 := by simpa using h2
      obtain ⟨i, hi⟩ : ∃ i, plc ls c = some i := by
        unfold okc at hok
        rw [show (c == 32) = false by simp [c1], Bool.false_or] at hok
        exact Option.isSome_iff_exists.mp hok
      have hil : i < ls.length := (List.findIdx?_eq_some_iff_findIdx_eq.mp hi).1
      have g1 : rs[i]? = some rs[i] := List.getElem?_eq_getElem (by omega)
      have g2 : ls[i]? = some ls[i] := List.getElem?_eq_getElem hil
      refine ⟨_, rfl, f, _, 1, .ref q, rfl, rfl, SqT.of h1, rfl, .ref f, rfl, .str (sx [c]), rfl, f, b, ls, c, rfl, hF, fun H1 e1 => ?_⟩
      rw [hi]
      refine ⟨q, rs.map V.ref, (i : Int), .ref rs[i], rfl, rfl, SqT.of (e1 _ _ hq), atI_nat (row_at (by omega)), rs[i], ltV ls[i], 1, .int ls[i].2, rfl, rfl, SqT.of (e1 _ _ (hrs i _ _ g1 g2)), rfl, ?_⟩
      have e : swd b ls c = ls[i].2 := by
        unfold swd
        rw [if_neg c1, hi]
        show (ls.getD i (0, 0)).2 = _
        rw [List.getD_eq_getElem?_getD, g2]
        rfl
      rw [e] at k
      exact k _ e1
def sp_between : Sp := fun vs H Q _ => ∃ p ps a c, vs = [.ref p, .str (sx [a]), .str (sx [c])] ∧ PairsAt H p ps ∧ RV1 (.int (btw ps a c)) H Q
theorem ok_between (T : Tx K mg) : FnOk P w K mg base CX0 2 T.a_between T.d_between ["pairs", "one", "other"] sp_between := by
  have G_gap_in : FnOk P w K mg base CX0 1 T.a_gap_in T.d_gap_in ["pairs", "left", "right"] sp_gap_in := ok_gap_in T
  refine T.f_between.ok sc_between (fun vs H Q E h => ?_) (fun cdv A outer s H vs Q E hr h => ?_)
  · obtain ⟨p, ps, a, c, rfl, _⟩ := h
    rfl
  · obtain ⟨p, ps, a, c, rfl, hP, k⟩ := h
    refine ⟨_,       (pss_cons (ps_if (PW.pt (pw_or (pt_cmpR op_eq (pv 1) pe_str (nomark _)) (pw_or1 (pt_cmpR op_eq (pv 2) pe_str (nomark _))))) 
        (pss_one (ps_ret pe_int)) pss_nil)
      (pss_one (ps_ret (pe_call G_gap_in (hr.mono (by decide)) (by rfl) T.g_gap_in T.f_gap_in.kp T.b_gap_in .nil pass0 (pa_cons (pv 0) (pa_cons (pv 1) (pa_cons (pv 2) pa_nil))))))), ?_⟩
    refine ⟨_, rfl, rfl, _, rfl, ?_⟩
    rw [show decide (V.str (sx [a]) = V.str _) = decide (a = 32) from blk_dec a]
    refine ite2 (fun h2 => ?_) (fun h2 => ?_)
    · have c1 : a = 32 := by simpa using h2
      rw [show btw ps a c = 0 from if_pos (.inl c1)] at k
      exact iteT (k _ (Ex.refl _))
    · have c1 : ¬ a = 32 := by simpa using h2
      refine ⟨_, rfl, rfl, _, rfl, ?_⟩
      rw [show decide (V.str (sx [c]) = V.str _) = decide (c = 32) from blk_dec c]
      refine ite2 (fun h3 => ?_) (fun h3 => ?_)
      · have c2 : c = 32 := by simpa using h3
        rw [show btw ps a c = 0 from if_pos (.inr c2)] at k
        exact k _ (Ex.refl _)
      · have c2 : ¬ c = 32 := by simpa using h3
        rw [show btw ps a c = gap ps a c from if_neg (fun z => z.elim c1 c2)] at k
        exact ⟨_, rfl, _, rfl, _, rfl, p, ps, a, c, rfl, hP, k⟩
end
end K96
namespace K96
open PySem PySem.Spec PyProof.Rows L2 Evl
theorem emp_eq : (Str.ofString "") = sx [] := by decide +kernel
theorem emp_dec (t : List Nat) : decide (V.str (sx t) = V.str (Str.ofString "")) = decide (t = []) := by
  rw [emp_eq, sx_dec]
theorem atI_m1 {α : Type} {xs : List α} {v : α} (h : xs[xs.length - 1]? = some v) : atI xs (-1) = some v := by
  have hl : 0 < xs.length := by
    cases xs with
    | nil => simp at h
    | cons x r => simp
  unfold atI ixN
  rw [if_neg (by decide), if_pos (by omega)]
  show xs[((-1 : Int) + (xs.length : Int)).toNat]? = some v
  rw [show ((-1 : Int) + (xs.length : Int)).toNat = xs.length - 1 by omega]
  exact h
theorem sgn_sx (t : List Nat) (i : Nat) : sgn (sx t) i = .str (sx [t.getD i 0]) := by
  unfold sgn
  simp [sx]
theorem sz1000 {n : Nat} (h : n ≤ 1000) : n ≤ sizeLine := Nat.le_of_lt (small1000 h)
theorem sx_len (t : List Nat) : (sx t).length = t.length := by simp [sx, Str.length]
theorem sx_size (t : List Nat) : (sx t).cps.size = t.length := by simp [sx]
theorem getD_at {t : List Nat} {i : Nat} (h : i < t.length) : t[i]? = some (t.getD i 0) := by
  rw [List.getD_eq_getElem?_getD, List.getElem?_eq_getElem h]
  rfl
theorem getD_mem {t : List Nat} {i : Nat} (h : i < t.length) : t.getD i 0 ∈ t := List.mem_of_getElem? (getD_at h)
section
variable {P : Program} {w : World} {K : PySem.W.Frag} {mg : Str → Option Value} {base : Heap}
def bgs (b : Int) (ls : List (Nat × Int)) (ps : List (Nat × Nat × Int)) (t : List Nat) (n : Nat) : List V := (List.range n).map fun i => V.int (bg (swd b ls) (btw ps) t i)
def sp_begins_in : Sp := fun vs H Q _ => ∃ f p b ls ps t, vs = [.ref f, .ref p, .str (sx t)] ∧ FaceAt H f b ls ∧ PairsAt H p ps ∧ tok ls t ∧ RT1 (bgs b ls ps t t.length) H Q
theorem ok_begins_in (T : Tx K mg) : FnOk P w K mg base CX0 3 T.a_begins_in T.d_begins_in ["face", "pairs", "text"] sp_begins_in := by
  have G_sign_width : FnOk P w K mg base CX0 2 T.a_sign_width T.d_sign_width ["face", "sign"] sp_sign_width := ok_sign_width T
  have G_between : FnOk P w K mg base CX0 2 T.a_between T.d_between ["pairs", "one", "other"] sp_between := ok_between T
  refine T.f_begins_in.ok sc_begins_in (fun vs H Q E h => ?_) (fun cdv A outer s H vs Q E hr h => ?_)
  · obtain ⟨f, p, b, ls, ps, t, rfl, _⟩ := h
    rfl
  · obtain ⟨f, p, b, ls, ps, t, rfl, hF, hP, ht, k⟩ := h
    refine ⟨_,       (pss_cons (ps_set (i := 3) sc_begins_in.nd rfl (.inl rfl) (pe_lst pa_nil))
      (pss_cons (ps_set (i := 4) sc_begins_in.nd rfl (.inl rfl) pe_int)
      (pss_cons (ps_for PassesOwn.never rfl (pi_enumS (by rfl) T.z_enumerate (pa_cons (pv 2) pa_nil)) (pg_tup rfl (pgs_cons (pg_name (i := 5) sc_begins_in.nd rfl (.inl rfl)) (pgs_cons (pg_name (i := 6) sc_begins_in.nd rfl (.inl rfl)) pgs_nil))) 
        (pss_cons (ps_if (pt_cmpR op_gt (pv 5) pe_int (nomark _)) 
          (pss_one (ps_set (i := 4) sc_begins_in.nd rfl (.inl rfl) (pe_op op_add (pe_op op_add (pv 4) (pe_call G_sign_width (hr.mono (by decide)) (by rfl) T.g_sign_width T.f_sign_width.kp T.b_sign_width .nil pass0 (pa_cons (pv 0) (pa_cons (pe_ix ix_str (pv 2) (pe_op op_sub (pv 5) pe_int) (fun _ _ => rfl)) pa_nil)))) (pe_call G_between (hr.mono (by decide)) (by rfl) T.g_between T.f_between.kp T.b_between .nil pass0 (pa_cons (pv 1) (pa_cons (pe_ix ix_str (pv 2) (pe_op op_sub (pv 5) pe_int) (fun _ _ => rfl)) (pa_cons (pv 6) pa_nil))))))) pss_nil)
        (pss_one (ps_expr (pe_bm PySem.F.plainAttrs_list PySem.F.slot_list_append PySem.F.type_list_append mt_append (pv 3) (pa_cons (pv 4) pa_nil))))))
      (pss_one (ps_ret (pe_callTy call_tuple_of (by rfl) T.z_tuple (by decide +kernel) (pa_cons (pv 3) pa_nil))))))), ?_⟩
    refine ⟨Nat.zero_le _, fun o no => ?_⟩
    refine ⟨.str (sx t), rfl, sx t, rfl, ?_⟩
    refine for_it walk_itp (fun i σ H' => ∃ y5 y6, σ = [some (.ref f), some (.ref p), some (.str (sx t)), some (.ref o), some (.int (bg (swd b ls) (btw ps) t (i - 1))), y5, y6] ∧ Ex H H' ∧ H' o = some (.lst (bgs b ls ps t i)))
      ⟨none, none, rfl, ex_new no, upd_same⟩ (fun _ _ _ _ _ => trivial) ?_ ?_
    · rintro i x σ H1 H2 hi ⟨y5, y6, rfl, e, hL⟩ ⟨Tp, rfl, nT, rfl⟩
      rw [sx_size] at hi
      have hz : t.length ≤ 1000 := ht.2
      have nTo : o ≠ Tp := ne_of_none hL nT
      have e2 : Ex H (upd H1 Tp (.tup [nat2 i, sgn (sx t) i])) := e.trans (ex_new nT)
      have hL2 : (upd H1 Tp (.tup [nat2 i, sgn (sx t) i])) o = some (.lst (bgs b ls ps t i)) := by rw [upd_ne nTo]; exact hL
      refine ⟨Tp, _, rfl, SqT.of upd_same, rfl, nat2 i, _, rfl, sgn (sx t) i, _, rfl, rfl, ?_⟩
      generalize upd H1 Tp (.tup [nat2 i, sgn (sx t) i]) = H2 at e2 hL2 ⊢
      rw [sgn_sx]
      have fin : ∀ H3, Ex H H3 → H3 o = some (.lst (bgs b ls ps t i)) → ((upd H3 o (.lst (bgs b ls ps t i ++ [.int (bg (swd b ls) (btw ps) t i)]))) o = some (.lst (bgs b ls ps t (i + 1))) ∧ Ex H (upd H3 o (.lst (bgs b ls ps t i ++ [.int (bg (swd b ls) (btw ps) t i)])))) ∧ (bgs b ls ps t i).length < sizeLine := fun H3 e3 h3 => by
        refine ⟨⟨?_, e3.mut no⟩, ?_⟩
        · rw [upd_same]
          unfold bgs
          rw [List.range_succ, List.map_append]
          rfl
        · unfold bgs
          rw [List.length_map, List.length_range]
          exact small1000 (by omega)
      refine ⟨nat2 i, rfl, (i : Int), 0, rfl, rfl, _, rfl, ite2 (fun hp => ?_) (fun hp => ?_)⟩
      · have hi0 : 0 < i := by
          have := of_decide_eq_true hp
          omega
        have c1 : t[i - 1]? = some (t.getD (i - 1) 0) := getD_at (by omega)
        have ea : atI (sx t).cps.toList ((i : Int) - 1) = some (t.getD (i - 1) 0) := by
          rw [show (i : Int) - 1 = ((i - 1 : Nat) : Int) by omega]
          exact atI_nat c1
        have sz : (sx t).length ≤ sizeLine := by rw [sx_len]; exact sz1000 hz
        refine ⟨_, rfl, _, rfl, .str (sx t), rfl, nat2 i, rfl, (i : Int), 1, rfl, rfl, sx t, _, _, rfl, rfl, sz, ea, f, b, ls, t.getD (i - 1) 0, rfl, hF.mono e2, ht.1 _ (getD_mem (i := i - 1) (by omega)), fun H3 e3 => ⟨_, _, rfl, rfl, ?_⟩⟩
        refine ⟨_, rfl, .str (sx t), rfl, nat2 i, rfl, (i : Int), 1, rfl, rfl, sx t, _, _, rfl, rfl, sz, ea, _, rfl, p, ps, t.getD (i - 1) 0, t.getD i 0, rfl, hP.mono (e2.trans e3), fun H4 e4 => ⟨_, _, rfl, rfl, ?_⟩⟩
        have e5 : Ex H H4 := (e2.trans e3).trans e4
        have h5 := e4 _ _ (e3 _ _ hL2)
        have eb : bg (swd b ls) (btw ps) t (i - 1) + swd b ls (t.getD (i - 1) 0) + btw ps (t.getD (i - 1) 0) (t.getD i 0) = bg (swd b ls) (btw ps) t i := by
          obtain ⟨j, rfl⟩ : ∃ j, i = j + 1 := ⟨i - 1, by omega⟩
          rfl
        dsimp only
        rw [eb]
        obtain ⟨⟨f1, f2⟩, f3⟩ := fin H4 e5 h5
        exact ⟨.ref o, rfl, .inl ⟨rfl, _, SqL.of h5⟩, _, rfl, o, _, _, rfl, rfl, h5, f3, _, _, rfl, f2, f1⟩
      · have hi0 : i = 0 := by
          have h' : ¬ (0 : Int) < (i : Int) := fun z => hp (decide_eq_true z)
          omega
        subst hi0
        obtain ⟨⟨f1, f2⟩, f3⟩ := fin H2 e2 hL2
        exact ⟨.ref o, rfl, .inl ⟨rfl, _, SqL.of hL2⟩, _, rfl, o, _, _, rfl, rfl, hL2, f3, _, _, rfl, f2, f1⟩
    · rintro σ H1 ⟨y5, y6, rfl, e, hL⟩
      rw [sx_size] at hL
      refine ⟨.ref o, rfl, o, _, rfl, .inl ⟨SqL.of hL, fun l hl => ?_⟩⟩
      exact k l _ (fresh_back e hl) (e.trans (ex_new hl)) upd_same
def sp_wide_in : Sp := fun vs H Q _ => ∃ f p b ls ps t, vs = [.ref f, .ref p, .str (sx t)] ∧ FaceAt H f b ls ∧ PairsAt H p ps ∧ tok ls t ∧ RV1 (.int (Wd b ls ps t)) H Q
theorem ok_wide_in (T : Tx K mg) : FnOk P w K mg base CX0 4 T.a_wide_in T.d_wide_in ["face", "pairs", "text"] sp_wide_in := by
  have G_sign_width : FnOk P w K mg base CX0 2 T.a_sign_width T.d_sign_width ["face", "sign"] sp_sign_width := ok_sign_width T
  have G_begins_in : FnOk P w K mg base CX0 3 T.a_begins_in T.d_begins_in ["face", "pairs", "text"] sp_begins_in := ok_begins_in T
  refine T.f_wide_in.ok sc_wide_in (fun vs H Q E h => ?_) (fun cdv A outer s H vs Q E hr h => ?_)
  · obtain ⟨f, p, b, ls, ps, t, rfl, _⟩ := h
    rfl
  · obtain ⟨f, p, b, ls, ps, t, rfl, hF, hP, ht, k⟩ := h
    refine ⟨_,       (pss_cons (ps_if (pt_cmpR op_eq (pv 2) pe_str (nomark _)) 
        (pss_one (ps_ret pe_int)) pss_nil)
      (pss_one (ps_ret (pe_op op_add (pe_ix ix_tup (pe_call G_begins_in (hr.mono (by decide)) (by rfl) T.g_begins_in T.f_begins_in.kp T.b_begins_in .nil pass0 (pa_cons (pv 0) (pa_cons (pv 1) (pa_cons (pv 2) pa_nil)))) (pe_un un_neg pe_int) (fun _ _ => rfl)) (pe_call G_sign_width (hr.mono (by decide)) (by rfl) T.g_sign_width T.f_sign_width.kp T.b_sign_width .nil pass0 (pa_cons (pv 0) (pa_cons (pe_ix ix_str (pv 2) (pe_un un_neg pe_int) (fun _ _ => rfl)) pa_nil))))))), ?_⟩
    refine ⟨_, rfl, rfl, _, rfl, ?_⟩
    rw [show decide (V.str (sx t) = V.str _) = decide (t = []) from emp_dec t]
    refine ite2 (fun h1 => ?_) (fun h1 => ?_)
    · have c1 : t = [] := by simpa using h1
      subst c1
      exact k _ (Ex.refl _)
    · have c1 : t ≠ [] := by simpa using h1
      have hl : 0 < t.length := List.length_pos_iff.mpr c1
      refine ⟨_, rfl, _, rfl, _, rfl, f, p, b, ls, ps, t, rfl, hF, hP, ht, fun o H1 no e1 ho => ?_⟩
      have g : (bgs b ls ps t t.length)[(bgs b ls ps t t.length).length - 1]? = some (V.int (bg (swd b ls) (btw ps) t (t.length - 1))) := by
        unfold bgs
        rw [List.length_map, List.length_range, List.getElem?_map, List.getElem?_range (by omega)]
        rfl
      refine ⟨1, rfl, o, _, -1, _, rfl, rfl, SqT.of ho, atI_m1 g, ?_⟩
      refine ⟨_, rfl, .str (sx t), rfl, 1, rfl, sx t, -1, t.getD (t.length - 1) 0, rfl, rfl, by rw [sx_len]; exact sz1000 ht.2, (show atI t (-1) = some _ from atI_m1 (getD_at (t := t) (i := t.length - 1) (by omega))), f, b, ls, _, rfl, hF.mono e1, ht.1 (t.getD (t.length - 1) 0) (getD_mem (i := t.length - 1) (by omega)), fun H2 e2 => ⟨_, _, rfl, rfl, ?_⟩⟩
      rw [show Wd b ls ps t = _ from W_bg _ _ t c1] at k
      exact k _ (e1.trans e2)
def sp_wide : Sp := sp_wide_in
theorem ok_wide (T : Tx K mg) : FnOk P w K mg base CX0 5 T.a_wide T.d_wide ["face", "pairs", "text"] sp_wide_in := by
  have G_need_text : FnOk P w K mg base CX0 4 T.a_need_text T.d_need_text ["face", "thing"] sp_need_text := ok_need_text T
  have G_wide_in : FnOk P w K mg base CX0 4 T.a_wide_in T.d_wide_in ["face", "pairs", "text"] sp_wide_in := ok_wide_in T
  refine T.f_wide.ok sc_wide (fun vs H Q E h => ?_) (fun cdv A outer s H vs Q E hr h => ?_)
  · obtain ⟨f, p, b, ls, ps, t, rfl, _⟩ := h
    rfl
  · obtain ⟨f, p, b, ls, ps, t, rfl, hF, hP, ht, k⟩ := h
    refine ⟨_,       (pss_cons (ps_expr (pe_call G_need_text (hr.mono (by decide)) (by rfl) T.g_need_text T.f_need_text.kp T.b_need_text .nil pass0 (pa_cons (pv 0) (pa_cons (pv 2) pa_nil))))
      (pss_one (ps_ret (pe_call G_wide_in (hr.mono (by decide)) (by rfl) T.g_wide_in T.f_wide_in.kp T.b_wide_in .nil pass0 (pa_cons (pv 0) (pa_cons (pv 1) (pa_cons (pv 2) pa_nil))))))), ?_⟩
    refine ⟨_, rfl, _, rfl, f, b, ls, t, rfl, hF, ht, fun H1 e1 => ?_⟩
    exact ⟨_, rfl, _, rfl, _, rfl, f, p, b, ls, ps, t, rfl, hF.mono e1, hP.mono e1, ht, fun H2 e2 => k _ (e1.trans e2)⟩
end
end K96
namespace K96
open PySem PySem.Spec PyProof.Rows L2 Evl TL
/-! ### words in the heap -/
def wV (ws : List (List Nat)) : List V := ws.map fun w => V.str (sx w)
theorem wV_len (ws : List (List Nat)) : (wV ws).length = ws.length := by simp [wV]
theorem wV_at {ws : List (List Nat)} {i : Nat} {w : List Nat} (h : ws[i]? = some w) : (wV ws)[i]? = some (.str (sx w)) := by
  unfold wV
  rw [List.getElem?_map, h]
  rfl
structure WOk (ls : List (Nat × Int)) (ws : List (List Nat)) : Prop where
  ne : ∀ w ∈ ws, w ≠ []
  ok : ∀ w ∈ ws, ∀ c ∈ w, c ≠ 32 ∧ okc ls c = true
  short : ∀ w ∈ ws, w.length ≤ 50
  few : ws.length ≤ 12
  small : ∀ w ∈ ws, ∀ c ∈ w, c < 1000
theorem WOk.seg {ls : List (Nat × Int)} {ws : List (List Nat)} (h : WOk ls ws) {i j : Nat} (hj : j ≤ ws.length) : WOk ls (seg ws i j) :=
  ⟨fun w hw => h.ne w (seg_mem hw), fun w hw => h.ok w (seg_mem hw), fun w hw => h.short w (seg_mem hw), by rw [seg_len hj]; have := h.few; omega, fun w hw => h.small w (seg_mem hw)⟩
theorem WOk.tok {ls : List (Nat × Int)} {ws : List (List Nat)} (h : WOk ls ws) : K96.tok ls (jn ws) := by
  refine ⟨fun c hc => ?_, ?_⟩
  · rcases jn_mem hc with e | ⟨w, hw, hc⟩
    · simp [okc, e]
    · exact (h.ok w hw c hc).2
  · have h1 := jn_len 50 h.short
    have h2 := h.few
    have h3 : ws.length * (50 + 1) ≤ 12 * (50 + 1) := Nat.mul_le_mul_right _ h2
    omega
theorem WOk.word {ls : List (Nat × Int)} {ws : List (List Nat)} (h : WOk ls ws) {w : List Nat} (hw : w ∈ ws) : K96.tok ls w :=
  ⟨fun c hc => (h.ok w hw c hc).2, by have := h.short w hw; omega⟩
theorem WOk.line {ls : List (Nat × Int)} {ws : List (List Nat)} (h : WOk ls ws) (i : Nat) {j : Nat} (hj : j ≤ ws.length) : K96.tok ls (ln ws i j) := (h.seg hj).tok
theorem jn_nil {ws : List (List Nat)} (hn : ∀ w ∈ ws, w ≠ []) : jn ws = [] ↔ ws = [] := by
  constructor
  · intro h
    by_cases e : ws = []
    · exact e
    · exact absurd h (jn_ne e hn)
  · intro e
    rw [e]
    rfl
theorem jn_joinL : ∀ ws : List (List Nat), jn ws = joinL [32] ws
  | [] => rfl
  | [_] => rfl
  | p :: q :: r => by
    show p ++ 32 :: jn (q :: r) = p ++ ([32] ++ joinL [32] (q :: r))
    rw [jn_joinL (q :: r)]
    rfl
theorem map_tl_sx (ws : List (List Nat)) : (ws.map sx).map tl = ws := by
  rw [List.map_map]
  conv => rhs; rw [← List.map_id ws]
  exact List.map_congr_left fun w _ => rfl
theorem join_sx (ws : List (List Nat)) : Txt.join (sx [32]) (ws.map sx) = sx (jn ws) := by
  refine ext_tl ?_
  rw [join_eq, tl_join, map_tl_sx, jn_joinL]
theorem split_sx {ws : List (List Nat)} (hne : ws ≠ []) (hb : ∀ w ∈ ws, 32 ∉ w) : Txt.split (sx (jn ws)) (sx [32]) = ws.map sx := by
  rw [← join_sx]
  refine split_join (s := 32) (S := []) rfl (by decide +kernel) (fun e => hne (List.map_eq_nil_iff.mp e)) fun p hp => ?_
  obtain ⟨w, hw, rfl⟩ := List.mem_map.mp hp
  exact hb w hw
theorem cat_sx (a b : List Nat) : sx a ++ sx b = sx (a ++ b) := by
  refine ext_tl ?_
  rw [tl_append]
theorem sum_len50 : ∀ {ws : List (List Nat)}, (∀ w ∈ ws, w.length ≤ 50) → ((ws.map sx).map (·.length)).sum ≤ ws.length * 50
  | [], _ => by simp
  | w :: r, h => by
    have a := sum_len50 (ws := r) (fun x hx => h x (List.mem_cons_of_mem _ hx))
    have b := h w (by simp)
    simp only [List.map_cons, List.sum_cons, List.length_cons, sx_len] at a ⊢
    omega
theorem sum_len {ls : List (Nat × Int)} {ws : List (List Nat)} (h : WOk ls ws) : ((ws.map sx).map (·.length)).sum ≤ 600 := by
  have a := sum_len50 h.short
  have b := h.few
  omega
theorem wV_map (ws : List (List Nat)) : (ws.map sx).map V.str = wV ws := by
  unfold wV
  rw [List.map_map]
  rfl
theorem no_empty {ws : List (List Nat)} (hn : ∀ w ∈ ws, w ≠ []) : inV (.str (sx [])) (wV ws) = false := by
  unfold inV wV
  rw [List.any_map, List.any_eq_false]
  intro w hw
  show ¬ (sx w == sx []) = true
  intro e
  exact hn w hw (sx_inj (eq_of_beq e))
theorem wV_flat (ws : List (List Nat)) : (wV ws).all flatV = true := by
  unfold wV
  rw [List.all_map, List.all_eq_true]
  intro w _
  rfl
theorem cut_wV {ws : List (List Nat)} {i j : Nat} (hi : i ≤ j) (hj : j ≤ ws.length) : cutV (wV ws) (some (i : Int)) (some (j : Int)) = wV (seg ws i j) := by
  unfold cutV
  rw [HT.sIx_nat, HT.sIx_nat, wV_len, Nat.min_eq_left hj, Nat.min_eq_left (Nat.le_trans hi hj)]
  unfold wV seg
  rw [List.map_take, List.map_drop]
/-! ### lists of texts compared -/
def dStr (ws : List (List Nat)) : List PyData := ws.map fun w => PyData.str (sx w)
theorem strOk_sx {w : List Nat} (h : ∀ c ∈ w, c < 1000) : PyData.strOk (sx w) = true := by
  unfold PyData.strOk
  simp only [sx, List.all_toArray, List.all_eq_true, decide_eq_true_eq]
  intro c hc
  have := h c hc
  omega
theorem dStr_lay : ∀ ws : List (List Nat), (∀ w ∈ ws, ∀ c ∈ w, c < 1000) → PyData.canLayAll0 (dStr ws) = true
  | [], _ => by simp [dStr, PyData.canLayAll0]
  | w :: r, h => by
    have := dStr_lay r (fun x hx => h x (List.mem_cons_of_mem _ hx))
    have h2 := strOk_sx (h w (by simp))
    unfold dStr at this ⊢
    simp [PyData.canLayAll0, PyData.canLay0, this, h2]
theorem dStr_depth : ∀ ws : List (List Nat), PyData.depthAll (dStr ws) ≤ 1
  | [] => by simp [dStr, PyData.depthAll]
  | w :: r => by
    have := dStr_depth r
    unfold dStr at this ⊢
    simp only [List.map_cons, PyData.depthAll, PyData.depth]
    omega
theorem dStr_shaped {ws : List (List Nat)} (h : ∀ w ∈ ws, ∀ c ∈ w, c < 1000) : SeqAt.shaped (.list (dStr ws)) = true := by
  have h1 := dStr_depth ws
  have h2 : PyData.depth (.list (dStr ws)) ≤ 64 := by
    simp only [PyData.depth]
    omega
  show (PyData.canLay0 (.list (dStr ws)) && decide (PyData.depth (.list (dStr ws)) ≤ 64)) = true
  rw [Bool.and_eq_true]
  exact ⟨by simp only [PyData.canLay0]; exact dStr_lay ws h, decide_eq_true h2⟩
theorem dStr_all {K : PySem.W.Frag} {H : Hp} : ∀ ws : List (List Nat), DpAll K H (wV ws) (dStr ws)
  | [] => .nil
  | w :: r => .cons (.str _) (dStr_all r)
theorem dStr_nil (ws : List (List Nat)) : PyData.eqv (.list (dStr ws)) (.list []) = decide (ws = []) := by
  cases ws with
  | nil => simp [dStr, PyData.eqv, PyData.eqvAll]
  | cons w r => simp [dStr, PyData.eqv, PyData.eqvAll]
theorem nil_shaped : SeqAt.shaped (.list []) = true := dStr_shaped (ws := []) (fun _ h => nomatch h)
section
variable {P : Program} {w : World} {K : PySem.W.Frag} {mg : Str → Option Value} {base : Heap}
def sp_words_of : Sp := fun vs H Q _ => ∃ f b ls ws, vs = [.ref f, .str (sx (jn ws))] ∧ FaceAt H f b ls ∧ WOk ls ws ∧ RL1 (wV ws) H Q
theorem ok_words_of (T : Tx K mg) : FnOk P w K mg base CX0 5 T.a_words_of T.d_words_of ["face", "text"] sp_words_of := by
  have G_need_text : FnOk P w K mg base CX0 4 T.a_need_text T.d_need_text ["face", "thing"] sp_need_text := ok_need_text T
  refine T.f_words_of.ok sc_words_of (fun vs H Q E h => ?_) (fun cdv A outer s H vs Q E hr h => ?_)
  · obtain ⟨f, b, ls, ws, rfl, _⟩ := h
    rfl
  · obtain ⟨f, b, ls, ws, rfl, hF, hW, k⟩ := h
    refine ⟨_,       (pss_cons (ps_expr (pe_call G_need_text (hr.mono (by decide)) (by rfl) T.g_need_text T.f_need_text.kp T.b_need_text .nil pass0 (pa_cons (pv 0) (pa_cons (pv 1) pa_nil))))
      (pss_cons (ps_if (pt_cmpR op_eq (pv 1) pe_str (nomark _)) 
        (pss_one (ps_ret (pe_lst pa_nil))) pss_nil)
      (pss_cons (ps_set (i := 2) sc_words_of.nd rfl (.inl rfl) (pe_split (pv 1) pe_str))
      (pss_cons (ps_if (pt_cmpR op_in_seq pe_str (pv 2) (by rfl)) 
        (pss_one ps_never) pss_nil)
      (pss_one (ps_ret (pv 2))))))), ?_⟩
    refine ⟨_, rfl, _, rfl, f, b, ls, jn ws, rfl, hF, hW.tok, fun H1 e1 => ?_⟩
    refine ⟨_, rfl, rfl, _, rfl, ?_⟩
    rw [show decide (V.str (sx (jn ws)) = V.str _) = decide (jn ws = []) from emp_dec _]
    refine ite2 (fun h1 => ?_) (fun h1 => ?_)
    · have c1 : ws = [] := (jn_nil hW.ne).mp (by simpa using h1)
      subst c1
      exact ⟨Nat.zero_le _, fun l hl => k l _ (fresh_back e1 hl) (e1.trans (ex_new hl)) upd_same⟩
    · have c1 : ws ≠ [] := fun z => h1 (decide_eq_true ((jn_nil hW.ne).mpr z))
      have hb : ∀ w ∈ ws, 32 ∉ w := fun w hw hc => (hW.ok w hw 32 hc).1 rfl
      refine ⟨.str (sx (jn ws)), rfl, ⟨_, rfl⟩, sx (jn ws), Str.ofString " ", rfl, rfl, rfl, ?_, fun l hl => ?_⟩
      · rw [sx_len]
        exact sz1000 (by have := (hW.tok).2; have := jn_len 50 hW.short; have h2 := hW.few; have h3 : ws.length * (50 + 1) ≤ 12 * (50 + 1) := Nat.mul_le_mul_right _ h2; omega)
      · rw [blk_eq, split_sx c1 hb, wV_map]
        have e2 : Ex H (upd H1 l (.lst (wV ws))) := e1.trans (ex_new hl)
        refine ⟨_, rfl, l, wV ws, rfl, .inl (SqL.of upd_same), rfl, wV_flat ws, false, ?_, ?_⟩
        · rw [show (Str.ofString "") = sx [] from emp_eq, no_empty hW.ne]
          rfl
        · exact iteF ⟨.ref l, rfl, k l _ (fresh_back e1 hl) e2 upd_same⟩
def sp_line_of : Sp := fun vs H Q _ => ∃ (a : Addr) (ls : List (Nat × Int)) (ws : List (List Nat)) (i j : Nat), vs = [.ref a, .int (i : Int), .int (j : Int)] ∧ H a = some (.lst (wV ws)) ∧ WOk ls ws ∧ i ≤ j ∧ j ≤ ws.length ∧ RV1 (.str (sx (ln ws i j))) H Q
theorem ok_line_of (T : Tx K mg) : FnOk P w K mg base CX0 1 T.a_line_of T.d_line_of ["words", "first", "behind"] sp_line_of := by
  refine T.f_line_of.ok sc_line_of (fun vs H Q E h => ?_) (fun cdv A outer s H vs Q E hr h => ?_)
  · obtain ⟨a, ls, ws, i, j, rfl, _⟩ := h
    rfl
  · obtain ⟨a, ls, ws, i, j, rfl, ha, hW, hij, hj, k⟩ := h
    refine ⟨_,       (pss_one (ps_ret (pe_join pe_str (pe_slice sl_list (pv 0) (po_some (pv 1)) (po_some (pv 2)))))), ?_⟩
    refine ⟨⟨_, rfl⟩, .ref a, rfl, .int i, rfl, i, rfl, .int j, rfl, j, rfl, a, wV ws, rfl, SqL.of ha, fun l hl => ?_⟩
    refine ⟨Str.ofString " ", l, (seg ws i j).map sx, rfl, rfl, .inl (SqL.of ?_), ?_, ?_⟩
    · rw [upd_same, cut_wV hij hj, wV_map]
    · have h1 := sum_len (hW.seg (i := i) hj)
      have h2 : (Str.ofString " ").length = 1 := by decide +kernel
      rw [h2, List.length_map, seg_len hj]
      have := hW.few
      omega
    · rw [blk_eq, join_sx]
      exact k _ (ex_new hl)
def sp_room_of : Sp := fun vs H Q _ => ∃ f p b ls ps t M, vs = [.ref f, .ref p, .str (sx t), .int M] ∧ FaceAt H f b ls ∧ PairsAt H p ps ∧ tok ls t ∧ RV1 (.int (M - Wd b ls ps t)) H Q
theorem ok_room_of (T : Tx K mg) : FnOk P w K mg base CX0 5 T.a_room_of T.d_room_of ["face", "pairs", "line", "number"] sp_room_of := by
  have G_wide_in : FnOk P w K mg base CX0 4 T.a_wide_in T.d_wide_in ["face", "pairs", "text"] sp_wide_in := ok_wide_in T
  refine T.f_room_of.ok sc_room_of (fun vs H Q E h => ?_) (fun cdv A outer s H vs Q E hr h => ?_)
  · obtain ⟨f, p, b, ls, ps, t, M, rfl, _⟩ := h
    rfl
  · obtain ⟨f, p, b, ls, ps, t, M, rfl, hF, hP, ht, k⟩ := h
    refine ⟨_,       (pss_one (ps_ret (pe_op op_sub (pv 3) (pe_call G_wide_in (hr.mono (by decide)) (by rfl) T.g_wide_in T.f_wide_in.kp T.b_wide_in .nil pass0 (pa_cons (pv 0) (pa_cons (pv 1) (pa_cons (pv 2) pa_nil))))))), ?_⟩
    exact ⟨_, rfl, _, rfl, _, rfl, _, rfl, f, p, b, ls, ps, t, rfl, hF, hP, ht, fun H1 e1 => ⟨_, _, rfl, rfl, k _ e1⟩⟩
def sp_is_from_to : Sp := fun vs H Q _ => ∃ x lo hi : Int, vs = [.int x, .int lo, .int hi] ∧ lo ≤ x ∧ x ≤ hi ∧ RV1 (.bl true) H Q
theorem ok_is_from_to (T : Tx K mg) : FnOk P w K mg base CX0 1 T.a_is_from_to T.d_is_from_to ["thing", "least", "most"] sp_is_from_to := by
  refine T.f_is_from_to.ok sc_is_from_to (fun vs H Q E h => ?_) (fun cdv A outer s H vs Q E hr h => ?_)
  · obtain ⟨x, lo, hi, rfl, _⟩ := h
    rfl
  · obtain ⟨x, lo, hi, rfl, h1, h2, k⟩ := h
    refine ⟨_,       (pss_one (ps_ret (pe_and (pe_callB call_isi (by rfl) T.z_isinstance (by decide +kernel) (pa_cons (pv 0) (pa_cons (pe_bltn (v := .ty "int") (by rfl) T.z_int (by decide +kernel) rfl) pa_nil))) (pe_and (pe_not (pe_callB call_isi (by rfl) T.z_isinstance (by decide +kernel) (pa_cons (pv 0) (pa_cons (pe_bltn (v := .ty "bool") (by rfl) T.z_bool (by decide +kernel) rfl) pa_nil)))) (pe_one (pe_chain op_le op_le (pv 1) (pv 0) (pv 2))))))), ?_⟩
    refine ⟨_, rfl, _, _, .type "int", _, true, rfl, .ty _, .base (.int _), kit_ty (by decide +kernel), true, rfl, ?_⟩
    refine iteT ⟨_, rfl, _, _, .type "int", _, false, rfl, .ty _, .base (.int _), kit_ty (by decide +kernel), false, rfl, true, rfl, ?_⟩
    refine iteT ⟨_, rfl, _, rfl, lo, x, rfl, rfl, _, rfl, ?_⟩
    rw [decide_eq_true h1]
    refine iteT ⟨_, rfl, x, hi, rfl, rfl, ?_⟩
    show Q (.bl (decide (x ≤ hi))) H
    rw [decide_eq_true h2]
    exact k _ (Ex.refl _)
def sp_need_wide : Sp := fun vs H Q _ => ∃ M : Int, vs = [.int M] ∧ 1 ≤ M ∧ M ≤ 999 ∧ RV1 .non H Q
theorem ok_need_wide (T : Tx K mg) : FnOk P w K mg base CX0 2 T.a_need_wide T.d_need_wide ["number"] sp_need_wide := by
  have G_is_from_to : FnOk P w K mg base CX0 1 T.a_is_from_to T.d_is_from_to ["thing", "least", "most"] sp_is_from_to := ok_is_from_to T
  obtain ⟨tm, g_MOST_WIDE⟩ := T.g_MOST_WIDE
  refine T.f_need_wide.ok sc_need_wide (fun vs H Q E h => ?_) (fun cdv A outer s H vs Q E hr h => ?_)
  · obtain ⟨M, rfl, _⟩ := h
    rfl
  · obtain ⟨M, rfl, h1, h2, k⟩ := h
    refine ⟨_,       (pss_one (ps_if (pt_not (pt_val (pe_call G_is_from_to (hr.mono (by decide)) (by rfl) T.g_is_from_to T.f_is_from_to.kp T.b_is_from_to .nil pass0 (pa_cons (pv 0) (pa_cons pe_int (pa_cons (pe_glob (v := .int 999) (by rfl) g_MOST_WIDE ⟨_, rfl⟩) pa_nil)))))) 
        (pss_one ps_never) pss_nil)), ?_⟩
    refine ⟨_, rfl, M, 1, 999, rfl, h1, h2, fun H1 e1 => ⟨true, rfl, ?_⟩⟩
    exact iteF (k _ e1)
end
end K96
namespace K96
open PySem PySem.Spec PyProof.Rows L2 Evl TL
/-- what the breaking defs are asked with -/
structure Pm (b : Int) (ls : List (Nat × Int)) (ps : List (Nat × Nat × Int)) (ws : List (List Nat)) (M : Int) : Prop where
  hW : WOk ls ws
  hb : 0 ≤ b
  nn : ∀ w ∈ ws, 0 ≤ Wd b ls ps w
  fit : ∀ w ∈ ws, Wd b ls ps w ≤ M
  m1 : 1 ≤ M
  m2 : M ≤ 999
theorem Wd_app (b : Int) (ls : List (Nat × Int)) (ps : List (Nat × Nat × Int)) (u v : List Nat) (hu : u ≠ []) (hv : v ≠ []) : Wd b ls ps (u ++ 32 :: v) = Wd b ls ps u + b + Wd b ls ps v := by
  have h := W_app (swd b ls) (btw ps) 32 (fun c => if_pos (.inr rfl)) (fun c => if_pos (.inl rfl)) v hv u hu
  rw [show swd b ls 32 = b from if_pos rfl] at h
  exact h
section
variable {b : Int} {ls : List (Nat × Int)} {ps : List (Nat × Nat × Int)} {ws : List (List Nat)} {M : Int}
theorem Pm.ln_nn (h : Pm b ls ps ws M) {i j : Nat} (h1 : i < j) (h2 : j ≤ ws.length) : 0 ≤ Wd b ls ps (ln ws i j) := by
  have hne : ∀ p ∈ seg ws i j, p ≠ [] := fun p hp => h.hW.ne p (seg_mem hp)
  have hnn : ∀ p ∈ seg ws i j, 0 ≤ Wd b ls ps p := fun p hp => h.nn p (seg_mem hp)
  have hs := seg_ne h1 h2
  unfold ln
  rw [wl_jn (Wd_app b ls ps) hs hne]
  cases e : seg ws i j with
  | nil => exact absurd e hs
  | cons w r =>
    rw [e] at hnn
    have a := hnn w (by simp)
    have c := sm_nn (wl := Wd b ls ps) (b := b) (ps := r) (fun p hp => by
      have := hnn p (List.mem_cons_of_mem _ hp)
      have := h.hb
      omega)
    show 0 ≤ sm (Wd b ls ps) b ([w] ++ r) - b
    rw [sm_app]
    show 0 ≤ (Wd b ls ps w + b + 0) + sm (Wd b ls ps) b r - b
    omega
theorem Pm.mono (h : Pm b ls ps ws M) (i i' j k : Nat) (h1 : i' ≤ i) (h2 : i < j) (h3 : j ≤ k) (h4 : k ≤ ws.length) (hf : Fit (C (Wd b ls ps) ws M) i' k) : Fit (C (Wd b ls ps) ws M) i j :=
  fit_mono (Wd_app b ls ps) h.hW.ne (fun p hp => by have := h.nn p hp; have := h.hb; omega) i i' j k h1 h2 h3 h4 hf
theorem Pm.step (h : Pm b ls ps ws M) {i : Nat} (hi : i < ws.length) : Fit (C (Wd b ls ps) ws M) i (i + 1) := by
  have g := List.getElem?_eq_getElem hi
  rw [fit_iff, ln_one g]
  exact h.fit _ (List.getElem_mem hi)
theorem Pm.line (h : Pm b ls ps ws M) (i : Nat) {j : Nat} (hj : j ≤ ws.length) : K96.tok ls (ln ws i j) := h.hW.line i hj
end
theorem cat3 (l w : List Nat) : sx l ++ Str.ofString " " ++ sx w = sx (l ++ 32 :: w) := by
  rw [blk_eq, cat_sx, cat_sx, List.append_assoc]
  rfl
theorem ixN_m1 {n : Nat} (h : 0 < n) : ixN n (-1) = some (n - 1) := by
  unfold ixN
  rw [if_neg (by decide), if_pos (by omega)]
  congr 1
  omega
theorem set_lastV (L0 : List (List Nat)) (l v : List Nat) : (wV (L0 ++ [l])).set ((wV (L0 ++ [l])).length - 1) (.str (sx v)) = wV (L0 ++ [v]) := by
  have e : (wV (L0 ++ [l])).length - 1 = L0.length := by rw [wV_len, List.length_append]; simp
  rw [e]
  unfold wV
  rw [List.map_append, List.map_append, List.set_append_right _ _ (by simp)]
  simp
theorem small_line {ls : List (Nat × Int)} {ws : List (List Nat)} (h : WOk ls ws) {i j : Nat} {c : Nat} (hc : c ∈ ln ws i j) : c < 1000 := by
  rcases jn_mem hc with e | ⟨w, hw, hc⟩
  · omega
  · exact h.small w (seg_mem hw) c hc
section
variable {P : Program} {w : World} {K : PySem.W.Frag} {mg : Str → Option Value} {base : Heap}
def sp_need_words : Sp := fun vs H Q _ => ∃ f p b ls ps ws M, vs = [.ref f, .ref p, .str (sx (jn ws)), .int M] ∧ FaceAt H f b ls ∧ PairsAt H p ps ∧ Pm b ls ps ws M ∧ RL1 (wV ws) H Q
theorem ok_need_words (T : Tx K mg) : FnOk P w K mg base CX0 6 T.a_need_words T.d_need_words ["face", "pairs", "text", "number"] sp_need_words := by
  have G_words_of : FnOk P w K mg base CX0 5 T.a_words_of T.d_words_of ["face", "text"] sp_words_of := ok_words_of T
  have G_need_wide : FnOk P w K mg base CX0 2 T.a_need_wide T.d_need_wide ["number"] sp_need_wide := ok_need_wide T
  have G_room_of : FnOk P w K mg base CX0 5 T.a_room_of T.d_room_of ["face", "pairs", "line", "number"] sp_room_of := ok_room_of T
  refine T.f_need_words.ok sc_need_words (fun vs H Q E h => ?_) (fun cdv A outer s H vs Q E hr h => ?_)
  · obtain ⟨f, p, b, ls, ps, ws, M, rfl, _⟩ := h
    rfl
  · obtain ⟨f, p, b, ls, ps, ws, M, rfl, hF, hP, hM, k⟩ := h
    refine ⟨_,       (pss_cons (ps_set (i := 4) sc_need_words.nd rfl (.inl rfl) (pe_call G_words_of (hr.mono (by decide)) (by rfl) T.g_words_of T.f_words_of.kp T.b_words_of .nil pass0 (pa_cons (pv 0) (pa_cons (pv 2) pa_nil))))
      (pss_cons (ps_expr (pe_call G_need_wide (hr.mono (by decide)) (by rfl) T.g_need_wide T.f_need_wide.kp T.b_need_wide .nil pass0 (pa_cons (pv 3) pa_nil)))
      (pss_cons (ps_for PassesOwn.never rfl (pi_list (pv 4)) (pg_name (i := 5) sc_need_words.nd rfl (.inl rfl)) 
        (pss_one (ps_if (pt_cmpR op_lt (pe_call G_room_of (hr.mono (by decide)) (by rfl) T.g_room_of T.f_room_of.kp T.b_room_of .nil pass0 (pa_cons (pv 0) (pa_cons (pv 1) (pa_cons (pv 5) (pa_cons (pv 3) pa_nil))))) pe_int (nomark _)) 
          (pss_one ps_never) pss_nil)))
      (pss_one (ps_ret (pv 4)))))), ?_⟩
    refine ⟨_, rfl, _, rfl, f, b, ls, ws, rfl, hF, hM.hW, fun a H1 na e1 ha => ?_⟩
    refine ⟨_, rfl, M, rfl, hM.m1, hM.m2, fun H2 e2 => ?_⟩
    have ha2 := e2 _ _ ha
    refine ⟨.ref a, rfl, a, rfl, ⟨_, SqL.of ha2⟩, ?_⟩
    refine for_it walk_list (fun i σ H' => ∃ y5, σ = [some (.ref f), some (.ref p), some (.str (sx (jn ws))), some (.int M), some (.ref a), y5] ∧ Ex H2 H') ⟨none, rfl, Ex.refl _⟩ (fun i σ H' _ ⟨_, _, e⟩ => SqL.of (e _ _ ha2)) ?_ ?_
    · rintro i x σ H3 H4 hi ⟨y5, rfl, e⟩ ⟨rfl, hx⟩
      rw [wV_len] at hi
      have g := List.getElem?_eq_getElem hi
      rw [wV_at g] at hx
      cases hx
      have e3 : Ex H H4 := (e1.trans e2).trans e
      have hm := List.getElem_mem hi
      refine ⟨_, rfl, _, rfl, _, rfl, _, rfl, f, p, b, ls, ps, ws[i], M, rfl, hF.mono e3, hP.mono e3, hM.hW.word hm, fun H5 e5 => ⟨_, _, rfl, rfl, _, rfl, ?_⟩⟩
      have hf := hM.fit _ hm
      rw [decide_eq_false (show ¬ M - Wd b ls ps ws[i] < 0 by omega)]
      exact iteF ⟨_, rfl, e.trans e5⟩
    · rintro σ H3 ⟨y5, rfl, e⟩
      exact ⟨_, rfl, k a H3 na ((e1.trans e2).trans e) (e _ _ ha2)⟩
def sp_filled : Sp := fun vs H Q _ => ∃ f p b ls ps ws M, vs = [.ref f, .ref p, .str (sx (jn ws)), .int M] ∧ FaceAt H f b ls ∧ PairsAt H p ps ∧ Pm b ls ps ws M ∧ ∀ L, Full (Wd b ls ps) ws M ws.length L → RT1 (wV L) H Q
theorem ok_filled (T : Tx K mg) : FnOk P w K mg base CX0 7 T.a_filled T.d_filled ["face", "pairs", "text", "number"] sp_filled := by
  have G_need_words : FnOk P w K mg base CX0 6 T.a_need_words T.d_need_words ["face", "pairs", "text", "number"] sp_need_words := ok_need_words T
  have G_room_of : FnOk P w K mg base CX0 5 T.a_room_of T.d_room_of ["face", "pairs", "line", "number"] sp_room_of := ok_room_of T
  refine T.f_filled.ok sc_filled (fun vs H Q E h => ?_) (fun cdv A outer s H vs Q E hr h => ?_)
  · obtain ⟨f, p, b, ls, ps, ws, M, rfl, _⟩ := h
    rfl
  · obtain ⟨f, p, b, ls, ps, ws, M, rfl, hF, hP, hM, k⟩ := h
    refine ⟨_,       (pss_cons (ps_set (i := 4) sc_filled.nd rfl (.inl rfl) (pe_call G_need_words (hr.mono (by decide)) (by rfl) T.g_need_words T.f_need_words.kp T.b_need_words .nil pass0 (pa_cons (pv 0) (pa_cons (pv 1) (pa_cons (pv 2) (pa_cons (pv 3) pa_nil))))))
      (pss_cons (ps_set (i := 5) sc_filled.nd rfl (.inl rfl) (pe_lst pa_nil))
      (pss_cons (ps_for PassesOwn.never rfl (pi_list (pv 4)) (pg_name (i := 6) sc_filled.nd rfl (.inl rfl)) 
        (pss_one (ps_if (PW.pt (pw_and (pt_cmpR (op_neD hr.units) (pv 5) (pe_lst pa_nil) (nomark _)) (pw_and1 (pt_cmpR op_ge (pe_call G_room_of (hr.mono (by decide)) (by rfl) T.g_room_of T.f_room_of.kp T.b_room_of .nil pass0 (pa_cons (pv 0) (pa_cons (pv 1) (pa_cons (pe_op op_add_str (pe_op op_add_str (pe_ix ix_list (pv 5) (pe_un un_neg pe_int) (fun _ _ => rfl)) pe_str) (pv 6)) (pa_cons (pv 3) pa_nil))))) pe_int (nomark _))))) 
          (pss_one (ps_asg (pe_op op_add_str (pe_op op_add_str (pe_ix ix_list (pv 5) (pe_un un_neg pe_int) (fun _ _ => rfl)) pe_str) (pv 6)) (pg_sub (pv 5) (pe_un un_neg pe_int) set_list))) 
          (pss_one (ps_expr (pe_bm PySem.F.plainAttrs_list PySem.F.slot_list_append PySem.F.type_list_append mt_append (pv 5) (pa_cons (pv 6) pa_nil)))))))
      (pss_one (ps_ret (pe_callTy call_tuple_of (by rfl) T.z_tuple (by decide +kernel) (pa_cons (pv 5) pa_nil))))))), ?_⟩
    refine ⟨_, rfl, _, rfl, _, rfl, _, rfl, f, p, b, ls, ps, ws, M, rfl, hF, hP, hM, fun a H1 na e1 ha => ?_⟩
    refine ⟨Nat.zero_le _, fun o no => ?_⟩
    have nao : a ≠ o := ne_of_none ha no
    have ha2 : (upd H1 o (.lst [])) a = some (.lst (wV ws)) := by rw [upd_ne nao]; exact ha
    refine ⟨.ref a, rfl, a, rfl, ⟨_, SqL.of ha2⟩, ?_⟩
    refine for_it walk_list (fun i σ H' => ∃ y6 L, σ = [some (.ref f), some (.ref p), some (.str (sx (jn ws))), some (.int M), some (.ref a), some (.ref o), y6] ∧ Ex H1 H' ∧ H' o = some (.lst (wV L)) ∧ L.length ≤ i ∧ Full (Wd b ls ps) ws M i L)
      ⟨none, [], rfl, ex_new no, upd_same, Nat.le_refl _, .inl ⟨rfl, rfl⟩⟩ (fun i σ H' _ ⟨_, _, _, e, _⟩ => SqL.of (e _ _ ha)) ?_ ?_
    · rintro i x σ H3 H4 hi ⟨y6, L, rfl, e, hL, hn, hFull⟩ ⟨rfl, hx⟩
      rw [wV_len] at hi
      have g := List.getElem?_eq_getElem hi
      rw [wV_at g] at hx
      cases hx
      have hm := List.getElem_mem hi
      have few := hM.hW.few
      have szL : (wV L).length < sizeLine := by rw [wV_len]; exact small1000 (by omega)
      -- append the word
      have app : ∀ H5, Ex H1 H5 → H5 o = some (.lst (wV L)) → Full (Wd b ls ps) ws M (i + 1) (L ++ [ws[i]]) → ∃ y6 L', [some (V.ref f), some (.ref p), some (.str (sx (jn ws))), some (.int M), some (.ref a), some (.ref o), some (.str (sx ws[i]))] = [some (.ref f), some (.ref p), some (.str (sx (jn ws))), some (.int M), some (.ref a), some (.ref o), y6] ∧
          Ex H1 (upd H5 o (.lst (wV L ++ [.str (sx ws[i])]))) ∧ (upd H5 o (.lst (wV L ++ [.str (sx ws[i])]))) o = some (.lst (wV L')) ∧ L'.length ≤ i + 1 ∧ Full (Wd b ls ps) ws M (i + 1) L' := fun H5 e5 h5 hf => by
        refine ⟨_, L ++ [ws[i]], rfl, e5.mut no, ?_, ?_, hf⟩
        · rw [upd_same]
          unfold wV
          rw [List.map_append]
          rfl
        · rw [List.length_append, List.length_singleton]
          omega
      -- lines != []
      refine ⟨.ref o, rfl, Nat.zero_le _, fun q nq => ?_⟩
      have noq : o ≠ q := ne_of_none hL nq
      have hL5 : (upd H4 q (.lst [])) o = some (.lst (wV L)) := by rw [upd_ne noq]; exact hL
      have e5 : Ex H1 (upd H4 q (.lst [])) := e.trans (ex_new nq)
      have hsm : ∀ l ∈ L, ∀ c ∈ l, c < 1000 := fun l hl c hc => by
        obtain ⟨x1, x2, _, _, rfl⟩ := full_mem hFull hl
        exact small_line hM.hW hc
      refine ⟨.list (dStr L), .list [], .lst (SqL.of hL5) (dStr_all L), .lst (SqL.of upd_same) .nil, dStr_shaped hsm, nil_shaped, _, rfl, ?_⟩
      rw [dStr_nil]
      refine ite2 (fun hne => ?_) (fun hne => ?_)
      · have hLne : L ≠ [] := by simpa using hne
        have hi0 : 0 < i := by
          rcases hFull with ⟨_, z⟩ | ⟨js, i0, _, h2, _⟩
          · exact absurd z hLne
          · omega
        obtain ⟨L0, l, rfl, hstep⟩ := full_last hFull hi0
        obtain ⟨hyes, hno⟩ := hstep _ g
        have hl : (wV (L0 ++ [l]))[(wV (L0 ++ [l])).length - 1]? = some (.str (sx l)) := by
          rw [wV_len]
          exact wV_at (by simp)
        have tl0 : K96.tok ls l := by
          obtain ⟨x1, x2, _, h2, rfl⟩ := full_mem hFull (l := l) (by simp)
          exact hM.line x1 (by omega)
        have ll : (ln ws 0 ws.length).length ≤ 1000 := (hM.line 0 (Nat.le_refl _)).2
        have wl50 := hM.hW.short _ hm
        have s1 : (sx l).length + (Str.ofString " ").length ≤ sizeLine := by
          have h2 : (Str.ofString " ").length = 1 := by decide +kernel
          rw [h2, sx_len]
          have := tl0.2
          have : sizeLine = 16777216 := sizeLine_eq
          omega
        have s2 : (sx l ++ Str.ofString " ").length + (sx ws[i]).length ≤ sizeLine := by
          rw [blk_eq, cat_sx, sx_len, sx_len, List.length_append]
          have := tl0.2
          have : sizeLine = 16777216 := sizeLine_eq
          simp only [List.length_singleton]
          omega
        have tn : K96.tok ls (l ++ 32 :: ws[i]) := by
          obtain ⟨x1, x2, h1, h2, rfl⟩ := full_mem hFull (l := l) (by simp)
          refine ⟨fun c hc => ?_, ?_⟩
          · rcases List.mem_append.mp hc with hc | hc
            · exact tl0.1 c hc
            · rcases List.mem_cons.mp hc with hc | hc
              · simp [okc, hc]
              · exact (hM.hW.word hm).1 c hc
          · have hsl := seg_len (ws := ws) (i := x1) (j := x2) (by omega)
            have h3 := jn_len 50 (hM.hW.seg (i := x1) (j := x2) (by omega)).short
            rw [hsl] at h3
            have h4 : (x2 - x1) * (50 + 1) ≤ 11 * (50 + 1) := Nat.mul_le_mul_right _ (by omega)
            rw [List.length_append, List.length_cons]
            unfold ln
            omega
        refine ⟨_, rfl, _, rfl, .ref o, rfl, 1, rfl, o, _, -1, _, rfl, rfl, SqL.of hL5, atI_m1 hl, sx l, Str.ofString " ", rfl, rfl, s1, _, rfl, _, sx ws[i], rfl, rfl, s2, _, rfl, f, p, b, ls, ps, l ++ 32 :: ws[i], M, ?_, hF.mono (e1.trans e5), hP.mono (e1.trans e5), tn, fun H6 e6 => ⟨_, _, rfl, rfl, _, rfl, ?_⟩⟩
        · rw [← cat3]
          rfl
        have e7 : Ex H1 H6 := e5.trans e6
        have hL6 := e6 _ _ hL5
        refine ite2 (fun hy => ?_) (fun hy => ?_)
        · have hfit : Wd b ls ps (l ++ 32 :: ws[i]) ≤ M := by
            have := of_decide_eq_true hy
            omega
          refine ⟨.ref o, rfl, 1, rfl, o, _, -1, _, rfl, rfl, SqL.of hL6, atI_m1 hl, sx l, Str.ofString " ", rfl, rfl, s1, _, rfl, _, sx ws[i], rfl, rfl, s2, .ref o, rfl, 1, rfl, o, _, -1, _, rfl, rfl, hL6, ixN_m1 (by rw [wV_len]; simp), ?_⟩
          refine ⟨_, L0 ++ [l ++ 32 :: ws[i]], rfl, e7.mut no, ?_, ?_, hyes hfit⟩
          · rw [upd_same, cat3, set_lastV]
          · simp only [List.length_append, List.length_singleton] at hn ⊢
            omega
        · have hfit : ¬ Wd b ls ps (l ++ 32 :: ws[i]) ≤ M := fun z => hy (decide_eq_true (by omega))
          exact ⟨.ref o, rfl, .inl ⟨rfl, _, SqL.of hL6⟩, _, rfl, o, _, _, rfl, rfl, hL6, szL, app H6 e7 hL6 (hno hfit (hM.fit _ hm))⟩
      · have hLe : L = [] := by simpa using hne
        have hi0 : i = 0 := by
          by_cases z : i = 0
          · exact z
          · exact absurd hLe (full_ne hFull (by omega))
        refine iteF ⟨.ref o, rfl, .inl ⟨rfl, _, SqL.of hL5⟩, _, rfl, o, _, _, rfl, rfl, hL5, szL, app _ e5 hL5 ?_⟩
        subst hi0
        rw [hLe]
        exact full_one g (hM.fit _ hm)
    · rintro σ H3 ⟨y6, L, rfl, e, hL, hn, hFull⟩
      rw [wV_len] at hFull
      refine ⟨.ref o, rfl, o, _, rfl, .inl ⟨SqL.of hL, fun l hl => ?_⟩⟩
      exact k L hFull l _ (fresh_back (e1.trans e) hl) ((e1.trans e).trans (ex_new hl)) upd_same
end
end K96
namespace K96
open PySem PySem.Spec PyProof.Rows L2 Evl TL
abbrev Cst (b : Int) (ls : List (Nat × Int)) (ps : List (Nat × Nat × Int)) (ws : List (List Nat)) (M : Int) : Nat → Nat → Option Int := C (Wd b ls ps) ws M
abbrev Prs (b : Int) (ls : List (Nat × Int)) (ps : List (Nat × Nat × Int)) (ws : List (List Nat)) (M : Int) (m : Nat) : List Int := prices (Cst b ls ps ws M) ws.length m
def iV (l : List Int) : List V := l.map V.int
theorem iV_len (l : List Int) : (iV l).length = l.length := by simp [iV]
theorem iV_at {l : List Int} {i : Nat} (h : i < l.length) : (iV l)[i]? = some (.int (l.getD i 0)) := by
  unfold iV
  rw [List.getElem?_map, List.getElem?_eq_getElem h, List.getD_eq_getElem?_getD, List.getElem?_eq_getElem h]
  rfl
theorem encI_none (o : Option Int) : decide (encI o = V.non) = o.isNone := by
  cases o <;> rfl
section
variable {P : Program} {w : World} {K : PySem.W.Frag} {mg : Str → Option Value} {base : Heap}
def sp_cost_in : Sp := fun vs H Q _ => ∃ f p a t b ls ps ws M, ∃ i j : Nat, vs = [.ref f, .ref p, .ref a, .ref t, .int M] ∧ FaceAt H f b ls ∧ PairsAt H p ps ∧ Pm b ls ps ws M ∧ H a = some (.lst (wV ws)) ∧ H t = some (.tup [.int (i : Int), .int (j : Int)]) ∧ i < j ∧ j ≤ ws.length ∧ RV1 (encI (Cst b ls ps ws M i j)) H Q
theorem ok_cost_in (T : Tx K mg) : FnOk P w K mg base CX0 6 T.a_cost_in T.d_cost_in ["face", "pairs", "words", "ends", "number"] sp_cost_in := by
  have G_room_of : FnOk P w K mg base CX0 5 T.a_room_of T.d_room_of ["face", "pairs", "line", "number"] sp_room_of := ok_room_of T
  have G_line_of : FnOk P w K mg base CX0 1 T.a_line_of T.d_line_of ["words", "first", "behind"] sp_line_of := ok_line_of T
  refine T.f_cost_in.ok sc_cost_in (fun vs H Q E h => ?_) (fun cdv A outer s H vs Q E hr h => ?_)
  · obtain ⟨f, p, a, t, b, ls, ps, ws, M, i, j, rfl, _⟩ := h
    rfl
  · obtain ⟨f, p, a, t, b, ls, ps, ws, M, i, j, rfl, hF, hP, hM, ha, ht, hij, hj, k⟩ := h
    refine ⟨_,       (pss_cons (ps_set (i := 5) sc_cost_in.nd rfl (.inl rfl) (pe_call G_room_of (hr.mono (by decide)) (by rfl) T.g_room_of T.f_room_of.kp T.b_room_of .nil pass0 (pa_cons (pv 0) (pa_cons (pv 1) (pa_cons (pe_call G_line_of (hr.mono (by decide)) (by rfl) T.g_line_of T.f_line_of.kp T.b_line_of .nil pass0 (pa_cons (pv 2) (pa_cons (pe_ix ix_tup (pv 3) pe_int (fun _ _ => rfl)) (pa_cons (pe_ix ix_tup (pv 3) pe_int (fun _ _ => rfl)) pa_nil)))) (pa_cons (pv 4) pa_nil))))))
      (pss_cons (ps_if (pt_cmpR op_lt (pv 5) pe_int (nomark _)) 
        (pss_one (ps_ret pe_non)) pss_nil)
      (pss_cons (ps_if (pt_cmpR op_eq (pe_ix ix_tup (pv 3) pe_int (fun _ _ => rfl)) (pe_callB call_len_seq (by rfl) T.z_len (by decide +kernel) (pa_cons (pv 2) pa_nil)) (nomark _)) 
        (pss_one (ps_ret pe_int)) pss_nil)
      (pss_one (ps_ret (pe_op op_mul (pv 5) (pv 5))))))), ?_⟩
    refine ⟨_, rfl, _, rfl, .ref a, rfl, .ref t, rfl, t, _, 0, .int i, rfl, rfl, SqT.of ht, rfl, .ref t, rfl, t, _, 1, .int j, rfl, rfl, SqT.of ht, rfl, a, ls, ws, i, j, rfl, ha, hM.hW, Nat.le_of_lt hij, hj, fun H1 e1 => ?_⟩
    refine ⟨_, rfl, f, p, b, ls, ps, ln ws i j, M, rfl, hF.mono e1, hP.mono e1, hM.line i hj, fun H2 e2 => ?_⟩
    have e3 : Ex H H2 := e1.trans e2
    have nn := hM.ln_nn hij hj
    refine ⟨_, rfl, _, 0, rfl, rfl, _, rfl, ite2 (fun h => ?_) (fun h => ?_)⟩
    · have h1 : M - Wd b ls ps (ln ws i j) < 0 := of_decide_eq_true h
      rw [show Cst b ls ps ws M i j = none from C_no _ _ _ h1] at k
      exact k _ e3
    · have h1 : ¬ M - Wd b ls ps (ln ws i j) < 0 := fun z => h (decide_eq_true z)
      refine ⟨.ref t, rfl, t, _, 1, .int j, rfl, rfl, SqT.of (e3 _ _ ht), rfl, .ref a, rfl, a, _, rfl, .inl (SqL.of (e3 _ _ ha)), rfl, _, rfl, ite2 (fun h2 => ?_) (fun h2 => ?_)⟩
      · have ej : j = ws.length := by
          have q := V.int.inj (of_decide_eq_true h2)
          rw [wV_len] at q
          omega
        subst ej
        rw [show Cst b ls ps ws M i ws.length = some 0 from C_end _ _ _ h1] at k
        exact k _ e3
      · have ej : j ≠ ws.length := fun z => h2 (decide_eq_true (by rw [wV_len, z]))
        rw [show Cst b ls ps ws M i j = _ from C_mid _ _ _ h1 ej] at k
        have m2 := hM.m2
        refine ⟨_, rfl, _, rfl, _, _, rfl, rfl, .inl ⟨?_, ?_⟩, k _ e3⟩
        · omega
        · omega
def sp_prices_of : Sp := fun vs H Q _ => ∃ f p a b ls ps ws M, vs = [.ref f, .ref p, .ref a, .int M] ∧ FaceAt H f b ls ∧ PairsAt H p ps ∧ Pm b ls ps ws M ∧ H a = some (.lst (wV ws)) ∧ RL1 (iV (Prs b ls ps ws M ws.length)) H Q
theorem ok_prices_of (T : Tx K mg) : FnOk P w K mg base CX0 7 T.a_prices_of T.d_prices_of ["face", "pairs", "words", "number"] sp_prices_of := by
  have G_cost_in : FnOk P w K mg base CX0 6 T.a_cost_in T.d_cost_in ["face", "pairs", "words", "ends", "number"] sp_cost_in := ok_cost_in T
  refine T.f_prices_of.ok sc_prices_of (fun vs H Q E h => ?_) (fun cdv A outer s H vs Q E hr h => ?_)
  · obtain ⟨f, p, a, b, ls, ps, ws, M, rfl, _⟩ := h
    rfl
  · obtain ⟨f, p, a, b, ls, ps, ws, M, rfl, hF, hP, hM, ha, k⟩ := h
    have few := hM.hW.few
    refine ⟨_,       (pss_cons (ps_set (i := 4) sc_prices_of.nd rfl (.inl rfl) (pe_lst (pa_cons pe_int pa_nil)))
      (pss_cons (ps_for PassesOwn.never rfl (pi_revR (by rfl) T.z_reversed (prg_1 (by rfl) T.z_range (pe_callB call_len_seq (by rfl) T.z_len (by decide +kernel) (pa_cons (pv 2) pa_nil)))) (pg_name (i := 5) sc_prices_of.nd rfl (.inl rfl)) 
        (pss_cons (ps_set (i := 6) sc_prices_of.nd rfl (.inl rfl) pe_non)
        (pss_cons (ps_for PassesOwn.never rfl (pi_range2 (by rfl) T.z_range (pa_cons (pe_op op_add (pv 5) pe_int) (pa_cons (pe_op op_add (pe_callB call_len_seq (by rfl) T.z_len (by decide +kernel) (pa_cons (pv 2) pa_nil)) pe_int) pa_nil))) (pg_name (i := 7) sc_prices_of.nd rfl (.inl rfl)) 
          (pss_cons (ps_set (i := 8) sc_prices_of.nd rfl (.inl rfl) (pe_call G_cost_in (hr.mono (by decide)) (by rfl) T.g_cost_in T.f_cost_in.kp T.b_cost_in .nil pass0 (pa_cons (pv 0) (pa_cons (pv 1) (pa_cons (pv 2) (pa_cons (pe_tup (pa_cons (pv 5) (pa_cons (pv 7) pa_nil))) (pa_cons (pv 3) pa_nil)))))))
          (pss_one (ps_if (PW.pt (pw_and (pt_cmpR op_notN (pv 8) pe_non (nomark _)) (pw_and1 (PW.pt (pw_or (pt_cmpR op_isN (pv 6) pe_non (nomark _)) (pw_or1 (pt_cmpR op_lt (pe_op op_add (pv 8) (pe_ix ix_list (pv 4) (pe_op op_sub (pe_op op_sub (pv 7) (pv 5)) pe_int) (fun _ _ => rfl))) (pv 6) (nomark _)))))))) 
            (pss_one (ps_set (i := 6) sc_prices_of.nd rfl (.inl rfl) (pe_op op_add (pv 8) (pe_ix ix_list (pv 4) (pe_op op_sub (pe_op op_sub (pv 7) (pv 5)) pe_int) (fun _ _ => rfl))))) pss_nil))))
        (pss_one (ps_expr (pe_bm PySem.F.plainAttrs_list PySem.F.slot_list_insert PySem.F.type_list_insert mt_insert (pv 4) (pa_cons pe_int (pa_cons (pv 6) pa_nil))))))))
      (pss_one (ps_ret (pv 4))))), ?_⟩
    refine ⟨by decide, fun o no => ?_⟩
    have nao : a ≠ o := ne_of_none ha no
    refine ⟨.ref a, rfl, a, wV ws, rfl, .inl (SqL.of (by rw [upd_ne nao]; exact ha)), _, rfl, by decide, by decide, by rw [wV_len]; omega, by rw [wV_len]; omega, ?_⟩
    rw [wV_len, show ((ws.length : Int) - 0).toNat = ws.length by omega]
    refine for_it walk_rangeC (fun m σ H' => ∃ y5 y6 y7 y8, σ = [some (.ref f), some (.ref p), some (.ref a), some (.int M), some (.ref o), y5, y6, y7, y8] ∧ Ex H H' ∧ H' o = some (.lst (iV (Prs b ls ps ws M m))))
      ⟨none, none, none, none, rfl, ex_new no, upd_same⟩ (fun _ _ _ _ _ => trivial) ?_ ?_
    · rintro m x σ H1 H2 hm ⟨y5, y6, y7, y8, rfl, e, hL⟩ ⟨rfl, hx⟩
      obtain ⟨fi, hfi⟩ : ∃ fi : Nat, fi = ws.length - (m + 1) := ⟨_, rfl⟩
      have ex : x = .int (fi : Int) := by
        rw [hx]
        show V.int ((0 : Int) + (ws.length : Int) - 1 + (m : Int) * -1) = _
        congr 1
        omega
      subst ex
      have ha1 := e _ _ ha
      have qlen : (Prs b ls ps ws M m).length = m + 1 := prices_len _ _ _
      refine ⟨_, rfl, _, 1, rfl, rfl, .ref a, rfl, a, wV ws, rfl, .inl (SqL.of ha1), _, 1, rfl, rfl, _, _, rfl, ⟨by omega, by omega, by omega, by rw [wV_len]; omega⟩, ?_⟩
      rw [wV_len, show ((ws.length : Int) + 1 - ((fi : Int) + 1)).toNat = m + 1 by omega]
      refine for_it walk_range (fun j σ H' => ∃ y7 y8, σ = [some (.ref f), some (.ref p), some (.ref a), some (.int M), some (.ref o), some (.int (fi : Int)), some (encI (best (fun k => Cst b ls ps ws M fi (fi + 1 + k)) (Prs b ls ps ws M m) j)), y7, y8] ∧ Ex H H' ∧ H' o = some (.lst (iV (Prs b ls ps ws M m))))
        ⟨y7, y8, rfl, e, hL⟩ (fun _ _ _ _ _ => trivial) ?_ ?_
      · rintro j x σ H3 H4 hj ⟨y7, y8, rfl, e4, hL4⟩ ⟨rfl, rfl⟩
        refine ⟨_, rfl, _, rfl, .ref a, rfl, _, rfl, _, rfl, (by show 2 ≤ sizeLine; decide), fun t nt => ?_⟩
        have not_ : o ≠ t := ne_of_none hL4 nt
        have e5 : Ex H (upd H4 t (.tup [.int (fi : Int), .int ((fi : Int) + 1 + (j : Int))])) := e4.trans (ex_new nt)
        refine ⟨_, rfl, f, p, a, t, b, ls, ps, ws, M, fi, fi + 1 + j, rfl, hF.mono e5, hP.mono e5, hM, e5 _ _ ha, ?_, by omega, by omega, fun H6 e6 => ?_⟩
        · rw [upd_same]
          congr 4
        have e7 : Ex H H6 := e5.trans e6
        have hL6 : H6 o = some (.lst (iV (Prs b ls ps ws M m))) := e6 _ _ (by rw [upd_ne not_]; exact hL4)
        have hq : atI (iV (Prs b ls ps ws M m)) ((fi : Int) + 1 + (j : Int) - (fi : Int) - 1) = some (.int ((Prs b ls ps ws M m).getD j 0)) := by
          rw [show (fi : Int) + 1 + (j : Int) - (fi : Int) - 1 = (j : Int) by omega]
          exact atI_nat (iV_at (by rw [qlen]; omega))
        refine ⟨_, rfl, rfl, _, rfl, ?_⟩
        rw [encI_none]
        have skp : ∀ y, best (fun k => Cst b ls ps ws M fi (fi + 1 + k)) (Prs b ls ps ws M m) (j + 1) = best (fun k => Cst b ls ps ws M fi (fi + 1 + k)) (Prs b ls ps ws M m) j → ∃ y7 y8, ([some (V.ref f), some (.ref p), some (.ref a), some (.int M), some (.ref o), some (.int (fi : Int)), some (encI (best (fun k => Cst b ls ps ws M fi (fi + 1 + k)) (Prs b ls ps ws M m) j)), some (.int ((fi : Int) + 1 + (j : Int))), some y] : L2.St) =
            [some (V.ref f), some (.ref p), some (.ref a), some (.int M), some (.ref o), some (.int (fi : Int)), some (encI (best (fun k => Cst b ls ps ws M fi (fi + 1 + k)) (Prs b ls ps ws M m) (j + 1))), y7, y8] ∧ Ex H H6 ∧ H6 o = some (.lst (iV (Prs b ls ps ws M m))) := fun y hb => ⟨_, _, by rw [hb], e7, hL6⟩
        cases hc : Cst b ls ps ws M fi (fi + 1 + j) with
        | none => exact iteF (iteF (skp _ (best_none (c := fun k => Cst b ls ps ws M fi (fi + 1 + k)) hc)))
        | some x =>
          refine iteT ⟨_, rfl, rfl, _, rfl, ?_⟩
          rw [encI_none]
          have asg : ∀ y, best (fun k => Cst b ls ps ws M fi (fi + 1 + k)) (Prs b ls ps ws M m) (j + 1) = some (x + (Prs b ls ps ws M m).getD j 0) → ∃ y7 y8, ([some (V.ref f), some (.ref p), some (.ref a), some (.int M), some (.ref o), some (.int (fi : Int)), some (.int (x + (Prs b ls ps ws M m).getD j 0)), some (.int ((fi : Int) + 1 + (j : Int))), some y] : L2.St) =
              [some (.ref f), some (.ref p), some (.ref a), some (.int M), some (.ref o), some (.int (fi : Int)), some (encI (best (fun k => Cst b ls ps ws M fi (fi + 1 + k)) (Prs b ls ps ws M m) (j + 1))), y7, y8] ∧ Ex H H6 ∧ H6 o = some (.lst (iV (Prs b ls ps ws M m))) := fun y hb => ⟨_, _, by rw [hb]; rfl, e7, hL6⟩
          cases hb : best (fun k => Cst b ls ps ws M fi (fi + 1 + k)) (Prs b ls ps ws M m) j with
          | none =>
            refine iteT (iteT ⟨_, rfl, .ref o, rfl, _, rfl, _, rfl, _, _, rfl, rfl, _, 1, rfl, rfl, o, _, _, _, rfl, rfl, SqL.of hL6, hq, x, _, rfl, rfl, ?_⟩)
            exact asg _ (best_first (c := fun k => Cst b ls ps ws M fi (fi + 1 + k)) hc hb)
          | some z =>
            refine iteF ⟨_, rfl, .ref o, rfl, _, rfl, _, rfl, _, _, rfl, rfl, _, 1, rfl, rfl, o, _, _, _, rfl, rfl, SqL.of hL6, hq, x, _, rfl, rfl, _, rfl, _, z, rfl, rfl, _, rfl, ite2 (fun hl => ?_) (fun hl => ?_)⟩
            · refine ⟨_, rfl, .ref o, rfl, _, rfl, _, rfl, _, _, rfl, rfl, _, 1, rfl, rfl, o, _, _, _, rfl, rfl, SqL.of hL6, hq, x, _, rfl, rfl, ?_⟩
              exact asg _ (best_less (c := fun k => Cst b ls ps ws M fi (fi + 1 + k)) hc hb (of_decide_eq_true hl))
            · have s2 := skp (.int x) ((best_more (c := fun k => Cst b ls ps ws M fi (fi + 1 + k)) hc hb (fun q => hl (decide_eq_true q))).trans hb.symm)
              rw [hb] at s2
              exact s2
      · rintro σ H3 ⟨y7, y8, rfl, e4, hL4⟩
        have hfit := hM.step (i := fi) (by omega)
        obtain ⟨y, hy⟩ := Option.isSome_iff_exists.mp hfit
        obtain ⟨z, hz, _⟩ := best_le (c := fun k => Cst b ls ps ws M fi (fi + 1 + k)) (q := Prs b ls ps ws M m) (K := m + 1) (k := 0) (x := y) (by omega) hy
        rw [hz]
        refine ⟨.ref o, rfl, .inl ⟨rfl, _, SqL.of hL4⟩, _, rfl, o, _, 0, _, rfl, rfl, hL4, by rw [iV_len, qlen]; exact small1000 (by omega), by decide, by decide, ?_⟩
        refine ⟨_, _, _, _, rfl, e4.mut no, ?_⟩
        rw [upd_same]
        have ep : Prs b ls ps ws M (m + 1) = z :: Prs b ls ps ws M m := by
          show (best (fun k => Cst b ls ps ws M (ws.length - (m + 1)) (ws.length - (m + 1) + 1 + k)) (Prs b ls ps ws M m) (m + 1)).getD 0 :: _ = _
          rw [← hfi, hz]
          rfl
        rw [ep]
        rfl
    · rintro σ H1 ⟨y5, y6, y7, y8, rfl, e, hL⟩
      exact ⟨.ref o, rfl, k o H1 no e hL⟩
end
end K96
namespace K96
open PySem PySem.Spec PyProof.Rows L2 Evl TL
abbrev Pr (b : Int) (ls : List (Nat × Int)) (ps : List (Nat × Nat × Int)) (ws : List (List Nat)) (M : Int) (i : Nat) : Int := K96.P (Cst b ls ps ws M) ws.length i
theorem prs_at {b : Int} {ls : List (Nat × Int)} {ps : List (Nat × Nat × Int)} {ws : List (List Nat)} {M : Int} {i : Nat} (h : i ≤ ws.length) : atI (iV (Prs b ls ps ws M ws.length)) (i : Int) = some (.int (Pr b ls ps ws M i)) :=
  atI_nat (iV_at (by rw [show (Prs b ls ps ws M ws.length).length = ws.length + 1 from prices_len _ _ _]; omega))
section
variable {P : Program} {w : World} {K : PySem.W.Frag} {mg : Str → Option Value} {base : Heap}
def sp_evened : Sp := fun vs H Q _ => ∃ f p b ls ps ws M, vs = [.ref f, .ref p, .str (sx (jn ws)), .int M] ∧ FaceAt H f b ls ∧ PairsAt H p ps ∧ Pm b ls ps ws M ∧ ∀ L, Even (Wd b ls ps) ws M ws.length L → RT1 (wV L) H Q
theorem ok_evened (T : Tx K mg) : FnOk P w K mg base CX0 8 T.a_evened T.d_evened ["face", "pairs", "text", "number"] sp_evened := by
  have G_need_words : FnOk P w K mg base CX0 6 T.a_need_words T.d_need_words ["face", "pairs", "text", "number"] sp_need_words := ok_need_words T
  have G_prices_of : FnOk P w K mg base CX0 7 T.a_prices_of T.d_prices_of ["face", "pairs", "words", "number"] sp_prices_of := ok_prices_of T
  have G_cost_in : FnOk P w K mg base CX0 6 T.a_cost_in T.d_cost_in ["face", "pairs", "words", "ends", "number"] sp_cost_in := ok_cost_in T
  have G_line_of : FnOk P w K mg base CX0 1 T.a_line_of T.d_line_of ["words", "first", "behind"] sp_line_of := ok_line_of T
  refine T.f_evened.ok sc_evened (fun vs H Q E h => ?_) (fun cdv A outer s H vs Q E hr h => ?_)
  · obtain ⟨f, p, b, ls, ps, ws, M, rfl, _⟩ := h
    rfl
  · obtain ⟨f, p, b, ls, ps, ws, M, rfl, hF, hP, hM, k⟩ := h
    have few := hM.hW.few
    refine ⟨_,       (pss_cons (ps_set (i := 4) sc_evened.nd rfl (.inl rfl) (pe_call G_need_words (hr.mono (by decide)) (by rfl) T.g_need_words T.f_need_words.kp T.b_need_words .nil pass0 (pa_cons (pv 0) (pa_cons (pv 1) (pa_cons (pv 2) (pa_cons (pv 3) pa_nil))))))
      (pss_cons (ps_set (i := 5) sc_evened.nd rfl (.inl rfl) (pe_call G_prices_of (hr.mono (by decide)) (by rfl) T.g_prices_of T.f_prices_of.kp T.b_prices_of .nil pass0 (pa_cons (pv 0) (pa_cons (pv 1) (pa_cons (pv 4) (pa_cons (pv 3) pa_nil))))))
      (pss_cons (ps_set (i := 6) sc_evened.nd rfl (.inl rfl) (pe_lst pa_nil))
      (pss_cons (ps_set (i := 7) sc_evened.nd rfl (.inl rfl) pe_int)
      (pss_cons (ps_while PassesOwn.never (pt_cmpR op_lt (pv 7) (pe_callB call_len_seq (by rfl) T.z_len (by decide +kernel) (pa_cons (pv 4) pa_nil)) (nomark _)) 
        (pss_cons (ps_for PassesOwn.never rfl (pi_revR (by rfl) T.z_reversed (prg_2 (by rfl) T.z_range (pe_op op_add (pv 7) pe_int) (pe_op op_add (pe_callB call_len_seq (by rfl) T.z_len (by decide +kernel) (pa_cons (pv 4) pa_nil)) pe_int))) (pg_name (i := 8) sc_evened.nd rfl (.inl rfl)) 
          (pss_cons (ps_set (i := 9) sc_evened.nd rfl (.inl rfl) (pe_call G_cost_in (hr.mono (by decide)) (by rfl) T.g_cost_in T.f_cost_in.kp T.b_cost_in .nil pass0 (pa_cons (pv 0) (pa_cons (pv 1) (pa_cons (pv 4) (pa_cons (pe_tup (pa_cons (pv 7) (pa_cons (pv 8) pa_nil))) (pa_cons (pv 3) pa_nil)))))))
          (pss_one (ps_if (PW.pt (pw_and (pt_cmpR op_notN (pv 9) pe_non (nomark _)) (pw_and1 (pt_cmpR op_eq (pe_op op_add (pv 9) (pe_ix ix_list (pv 5) (pv 8) (fun _ _ => rfl))) (pe_ix ix_list (pv 5) (pv 7) (fun _ _ => rfl)) (nomark _))))) 
            (pss_one ps_break) pss_nil))))
        (pss_cons (ps_expr (pe_bm PySem.F.plainAttrs_list PySem.F.slot_list_append PySem.F.type_list_append mt_append (pv 6) (pa_cons (pe_call G_line_of (hr.mono (by decide)) (by rfl) T.g_line_of T.f_line_of.kp T.b_line_of .nil pass0 (pa_cons (pv 4) (pa_cons (pv 7) (pa_cons (pv 8) pa_nil)))) pa_nil)))
        (pss_one (ps_set (i := 7) sc_evened.nd rfl (.inl rfl) (pv 8))))))
      (pss_one (ps_ret (pe_callTy call_tuple_of (by rfl) T.z_tuple (by decide +kernel) (pa_cons (pv 6) pa_nil))))))))), ?_⟩
    refine ⟨_, rfl, _, rfl, _, rfl, _, rfl, f, p, b, ls, ps, ws, M, rfl, hF, hP, hM, fun a H1 na e1 ha => ?_⟩
    refine ⟨_, rfl, _, rfl, _, rfl, _, rfl, f, p, a, b, ls, ps, ws, M, rfl, hF.mono e1, hP.mono e1, hM, ha, fun pr H2 npr e2 hpr => ?_⟩
    have ha2 := e2 _ _ ha
    have e12 : Ex H H2 := e1.trans e2
    refine ⟨Nat.zero_le _, fun o no => ?_⟩
    refine ⟨fun m σ H' => ∃ i y8 y9 L, m = ws.length - i ∧ i ≤ ws.length ∧ L.length ≤ i ∧ σ = [some (.ref f), some (.ref p), some (.str (sx (jn ws))), some (.int M), some (.ref a), some (.ref pr), some (.ref o), some (.int ((i : Nat) : Int)), y8, y9] ∧ Ex H2 H' ∧ H' o = some (.lst (wV L)) ∧ Even (Wd b ls ps) ws M i L,
      ⟨ws.length, 0, none, none, [], rfl, Nat.zero_le _, Nat.le_refl _, rfl, ex_new no, upd_same, even_nil⟩, ?_⟩
    rintro m σ H3 ⟨i, y8, y9, L, rfl, hi, hn, rfl, e, hL, hE⟩
    have ha3 := e _ _ ha2
    have hpr3 := e _ _ hpr
    refine ⟨_, rfl, .ref a, rfl, a, _, rfl, .inl (SqL.of ha3), _, _, rfl, rfl, _, rfl, ite2 (fun hlt => ?_) (fun hlt => ?_)⟩
    · have hin : i < ws.length := by
        have q := of_decide_eq_true hlt
        rw [wV_len] at q
        omega
      refine ⟨fun σ' H' => ∃ m', m' < ws.length - i ∧ ∃ i y8 y9 L, m' = ws.length - i ∧ i ≤ ws.length ∧ L.length ≤ i ∧ σ' = [some (.ref f), some (.ref p), some (.str (sx (jn ws))), some (.int M), some (.ref a), some (.ref pr), some (.ref o), some (.int ((i : Nat) : Int)), y8, y9] ∧ Ex H2 H' ∧ H' o = some (.lst (wV L)) ∧ Even (Wd b ls ps) ws M i L, fun _ _ h => h, ?_⟩
      refine ⟨_, rfl, _, 1, rfl, rfl, .ref a, rfl, a, _, rfl, .inl (SqL.of ha3), _, 1, rfl, rfl, _, _, rfl, rfl, by omega, by omega, by rw [wV_len]; omega, by rw [wV_len]; omega, ?_⟩
      rw [wV_len, show ((ws.length : Int) + 1 - ((i : Int) + 1)).toNat = ws.length - i by omega]
      refine for_it walk_rangeC (fun t σ H' => ∃ y8 y9, σ = [some (.ref f), some (.ref p), some (.str (sx (jn ws))), some (.int M), some (.ref a), some (.ref pr), some (.ref o), some (.int (i : Int)), y8, y9] ∧ Ex H3 H' ∧ ∀ j x, ws.length - t < j → j ≤ ws.length → Cst b ls ps ws M i j = some x → x + Pr b ls ps ws M j ≠ Pr b ls ps ws M i)
        ⟨y8, y9, rfl, Ex.refl _, fun j x h1 h2 => by omega⟩ (fun _ _ _ _ _ => trivial) ?_ ?_
      · rintro t x σ H4 H5 ht ⟨y8, y9, rfl, e4, hno⟩ ⟨rfl, hx⟩
        obtain ⟨j, hj⟩ : ∃ j : Nat, j = ws.length - t := ⟨_, rfl⟩
        have ex : x = .int (j : Int) := by
          rw [hx]
          show V.int ((i : Int) + 1 + ((ws.length - i : Nat) : Int) - 1 + (t : Int) * -1) = _
          congr 1
          omega
        subst ex
        have hij : i < j := by omega
        have hjn : j ≤ ws.length := by omega
        refine ⟨_, rfl, _, rfl, .ref a, rfl, _, rfl, _, rfl, (by show 2 ≤ sizeLine; decide), fun tu nt => ?_⟩
        have e5 : Ex H3 (upd H5 tu (.tup [.int (i : Int), .int (j : Int)])) := e4.trans (ex_new nt)
        have e05 : Ex H (upd H5 tu (.tup [.int (i : Int), .int (j : Int)])) := (e12.trans e).trans e5
        refine ⟨_, rfl, f, p, a, tu, b, ls, ps, ws, M, i, j, rfl, hF.mono e05, hP.mono e05, hM, e5 _ _ ha3, upd_same, hij, hjn, fun H6 e6 => ?_⟩
        have e36 : Ex H3 H6 := e5.trans e6
        have hpr6 := e36 _ _ hpr3
        have hL6 := e36 _ _ hL
        refine ⟨_, rfl, rfl, _, rfl, ?_⟩
        rw [encI_none]
        have skip : (∀ x, Cst b ls ps ws M i j = some x → x + Pr b ls ps ws M j ≠ Pr b ls ps ws M i) → ∀ j' x, ws.length - (t + 1) < j' → j' ≤ ws.length → Cst b ls ps ws M i j' = some x → x + Pr b ls ps ws M j' ≠ Pr b ls ps ws M i := fun h j' x h1 h2 h3 => by
          by_cases ej : j' = j
          · subst ej
            exact h x h3
          · exact hno j' x (by omega) h2 h3
        cases hc : Cst b ls ps ws M i j with
        | none => exact iteF (iteF ⟨_, _, rfl, e36, skip fun x h => by rw [hc] at h; cases h⟩)
        | some x =>
          refine iteT ⟨_, rfl, .ref pr, rfl, _, rfl, pr, _, _, _, rfl, rfl, SqL.of hpr6, prs_at hjn, x, _, rfl, rfl, .ref pr, rfl, _, rfl, pr, _, _, _, rfl, rfl, SqL.of hpr6, prs_at hi, rfl, _, rfl, ite2 (fun hq => ?_) (fun hq => ?_)⟩
          · have eq1 : x + Pr b ls ps ws M j = Pr b ls ps ws M i := V.int.inj (of_decide_eq_true hq)
            refine ⟨.ref o, rfl, .inl ⟨rfl, _, SqL.of hL6⟩, _, rfl, _, rfl, _, rfl, a, ls, ws, i, j, rfl, e36 _ _ ha3, hM.hW, Nat.le_of_lt hij, hjn, fun H7 e7 => ?_⟩
            have hL7 := e7 _ _ hL6
            refine ⟨o, _, _, rfl, rfl, hL7, by rw [wV_len]; exact small1000 (by omega), _, rfl, ws.length - j, by omega, j, _, _, L ++ [ln ws i j], rfl, hjn, ?_, rfl, ((e.trans e36).trans e7).mut no, ?_, even_snoc hE hij hc eq1⟩
            · rw [List.length_append, List.length_singleton]
              omega
            · rw [upd_same]
              unfold wV
              rw [List.map_append]
              rfl
          · refine ⟨_, _, rfl, e36, skip fun y h => ?_⟩
            rw [hc] at h
            cases h
            intro z
            exact hq (decide_eq_true (congrArg V.int z))
      · rintro σ H4 ⟨y8, y9, rfl, e4, hno⟩
        obtain ⟨j, x, h1, h2, h3, h4⟩ := P_eq (C := Cst b ls ps ws M) (n := ws.length) hin (hM.step hin)
        exact absurd h4.symm (hno j x (by omega) h2 h3)
    · have hin : i = ws.length := by
        have q : ¬ ((i : Int) < ((wV ws).length : Int)) := fun z => hlt (decide_eq_true z)
        rw [wV_len] at q
        omega
      subst hin
      refine ⟨.ref o, rfl, o, _, rfl, .inl ⟨SqL.of hL, fun l hl => ?_⟩⟩
      exact k L hE l _ (fresh_back (e12.trans e) hl) ((e12.trans e).trans (ex_new hl)) upd_same
def sp_shows_even : Sp := fun vs H Q _ => ∃ f p b ls ps ws M, vs = [.ref f, .ref p, .str (sx (jn ws)), .int M] ∧ FaceAt H f b ls ∧ PairsAt H p ps ∧ Pm b ls ps ws M ∧ RT1 (iV (Prs b ls ps ws M ws.length)) H Q
theorem ok_shows_even (T : Tx K mg) : FnOk P w K mg base CX0 8 T.a_shows_even T.d_shows_even ["face", "pairs", "text", "number"] sp_shows_even := by
  have G_need_words : FnOk P w K mg base CX0 6 T.a_need_words T.d_need_words ["face", "pairs", "text", "number"] sp_need_words := ok_need_words T
  have G_prices_of : FnOk P w K mg base CX0 7 T.a_prices_of T.d_prices_of ["face", "pairs", "words", "number"] sp_prices_of := ok_prices_of T
  refine T.f_shows_even.ok sc_shows_even (fun vs H Q E h => ?_) (fun cdv A outer s H vs Q E hr h => ?_)
  · obtain ⟨f, p, b, ls, ps, ws, M, rfl, _⟩ := h
    rfl
  · obtain ⟨f, p, b, ls, ps, ws, M, rfl, hF, hP, hM, k⟩ := h
    refine ⟨_,       (pss_one (ps_ret (pe_callTy call_tuple_of (by rfl) T.z_tuple (by decide +kernel) (pa_cons (pe_call G_prices_of (hr.mono (by decide)) (by rfl) T.g_prices_of T.f_prices_of.kp T.b_prices_of .nil pass0 (pa_cons (pv 0) (pa_cons (pv 1) (pa_cons (pe_call G_need_words (hr.mono (by decide)) (by rfl) T.g_need_words T.f_need_words.kp T.b_need_words .nil pass0 (pa_cons (pv 0) (pa_cons (pv 1) (pa_cons (pv 2) (pa_cons (pv 3) pa_nil))))) (pa_cons (pv 3) pa_nil))))) pa_nil)))), ?_⟩
    refine ⟨_, rfl, _, rfl, _, rfl, _, rfl, _, rfl, _, rfl, f, p, b, ls, ps, ws, M, rfl, hF, hP, hM, fun a H1 na e1 ha => ?_⟩
    refine ⟨_, rfl, f, p, a, b, ls, ps, ws, M, rfl, hF.mono e1, hP.mono e1, hM, ha, fun pr H2 npr e2 hpr => ?_⟩
    exact ⟨pr, _, rfl, .inl ⟨SqL.of hpr, fun l hl => k l _ (fresh_back (e1.trans e2) hl) ((e1.trans e2).trans (ex_new hl)) upd_same⟩⟩
def sp_cost_of : Sp := fun vs H Q _ => ∃ f p b ls ps ws M, vs = [.ref f, .ref p, .str (sx (jn ws)), .int M] ∧ FaceAt H f b ls ∧ PairsAt H p ps ∧ Pm b ls ps ws M ∧ RV1 (.int (Pr b ls ps ws M 0)) H Q
theorem ok_cost_of (T : Tx K mg) : FnOk P w K mg base CX0 9 T.a_cost_of T.d_cost_of ["face", "pairs", "text", "number"] sp_cost_of := by
  have G_shows_even : FnOk P w K mg base CX0 8 T.a_shows_even T.d_shows_even ["face", "pairs", "text", "number"] sp_shows_even := ok_shows_even T
  refine T.f_cost_of.ok sc_cost_of (fun vs H Q E h => ?_) (fun cdv A outer s H vs Q E hr h => ?_)
  · obtain ⟨f, p, b, ls, ps, ws, M, rfl, _⟩ := h
    rfl
  · obtain ⟨f, p, b, ls, ps, ws, M, rfl, hF, hP, hM, k⟩ := h
    refine ⟨_,       (pss_one (ps_ret (pe_ix ix_tup (pe_call G_shows_even (hr.mono (by decide)) (by rfl) T.g_shows_even T.f_shows_even.kp T.b_shows_even .nil pass0 (pa_cons (pv 0) (pa_cons (pv 1) (pa_cons (pv 2) (pa_cons (pv 3) pa_nil))))) pe_int (fun _ _ => rfl)))), ?_⟩
    refine ⟨_, rfl, _, rfl, _, rfl, _, rfl, f, p, b, ls, ps, ws, M, rfl, hF, hP, hM, fun a H1 na e1 ha => ?_⟩
    exact ⟨a, _, 0, _, rfl, rfl, SqT.of ha, prs_at (i := 0) (Nat.zero_le _), k _ e1⟩
end
end K96
namespace K96
open PySem PySem.Spec PyProof.Rows L2 Evl TL
/-- what shows that no cost is less -/
def Shows (c : Nat → Nat → Option Int) (n : Nat) (th : List Int) : Prop :=
  th.getD n 0 = 0 ∧ ∀ i, i < n → ∀ j x, i < j → j ≤ n → c i j = some x → ¬ th.getD j 0 + x < th.getD i 0
section
variable {P : Program} {w : World} {K : PySem.W.Frag} {mg : Str → Option Value} {base : Heap}
def sp_is_shown : Sp := fun vs H Q _ => ∃ f p t b ls ps ws M th, vs = [.ref f, .ref p, .str (sx (jn ws)), .int M, .ref t] ∧ FaceAt H f b ls ∧ PairsAt H p ps ∧ Pm b ls ps ws M ∧ H t = some (.tup (iV th)) ∧ th.length = ws.length + 1 ∧
  ∀ a : Bool, (a = true ↔ Shows (Cst b ls ps ws M) ws.length th) → RV1 (.bl a) H Q
theorem ok_is_shown (T : Tx K mg) : FnOk P w K mg base CX0 7 T.a_is_shown T.d_is_shown ["face", "pairs", "text", "number", "thing"] sp_is_shown := by
  have G_need_words : FnOk P w K mg base CX0 6 T.a_need_words T.d_need_words ["face", "pairs", "text", "number"] sp_need_words := ok_need_words T
  have G_cost_in : FnOk P w K mg base CX0 6 T.a_cost_in T.d_cost_in ["face", "pairs", "words", "ends", "number"] sp_cost_in := ok_cost_in T
  refine T.f_is_shown.ok sc_is_shown (fun vs H Q E h => ?_) (fun cdv A outer s H vs Q E hr h => ?_)
  · obtain ⟨f, p, t, b, ls, ps, ws, M, th, rfl, _⟩ := h
    rfl
  · obtain ⟨f, p, t, b, ls, ps, ws, M, th, rfl, hF, hP, hM, ht, hlen, k⟩ := h
    have few := hM.hW.few
    refine ⟨_,       (pss_cons (ps_set (i := 5) sc_is_shown.nd rfl (.inl rfl) (pe_call G_need_words (hr.mono (by decide)) (by rfl) T.g_need_words T.f_need_words.kp T.b_need_words .nil pass0 (pa_cons (pv 0) (pa_cons (pv 1) (pa_cons (pv 2) (pa_cons (pv 3) pa_nil))))))
      (pss_cons (ps_if (PW.pt (pw_or (pt_not (pt_val (pe_callB call_isi (by rfl) T.z_isinstance (by decide +kernel) (pa_cons (pv 4) (pa_cons (pe_bltn (v := .ty "tuple") (by rfl) T.z_tuple (by decide +kernel) rfl) pa_nil))))) (pw_or1 (pt_cmpR op_ne (pe_callB call_len_seq (by rfl) T.z_len (by decide +kernel) (pa_cons (pv 4) pa_nil)) (pe_op op_add (pe_callB call_len_seq (by rfl) T.z_len (by decide +kernel) (pa_cons (pv 5) pa_nil)) pe_int) (nomark _))))) 
        (pss_one (ps_ret pe_bl)) pss_nil)
      (pss_cons (ps_if (PW.pt (pw_or (pt_not (pt_val (pe_callB (cr_all rfl) (by rfl) T.z_all (by decide +kernel) (pa_cons (pe_lc (own := [("price", 9)]) (g := gName 9) (tt := tYes) rfl sc_is_shown.nd (pi_tup (pv 4)) (blkOk_by (own := [("price", 9)]) (N := N_is_shown) (sc := defScope s_is_shown) (by decide +kernel)) (fun _ _ _ _ _ => (pg_name (i := 9) sc_is_shown.nd rfl (.inl rfl))) (fun _ _ _ _ _ => pts_nil) (fun _ _ _ _ _ => (pe_and (pe_callB (k_isi K) (by rfl) T.z_isinstance (by decide +kernel) (pa_cons (pv 9) (pa_cons (pe_bltn (v := .ty "int") (by rfl) T.z_int (by decide +kernel) rfl) pa_nil))) (pe_one (pe_not (pe_callB (k_isi K) (by rfl) T.z_isinstance (by decide +kernel) (pa_cons (pv 9) (pa_cons (pe_bltn (v := .ty "bool") (by rfl) T.z_bool (by decide +kernel) rfl) pa_nil)))))))) pa_nil)))) (pw_or1 (pt_cmpR op_ne (pe_ix ix_tup (pv 4) (pe_un un_neg pe_int) (fun _ _ => rfl)) pe_int (nomark _))))) 
        (pss_one (ps_ret pe_bl)) pss_nil)
      (pss_cons (ps_for PassesOwn.never rfl (pi_range1 (by rfl) T.z_range (pa_cons (pe_callB call_len_seq (by rfl) T.z_len (by decide +kernel) (pa_cons (pv 5) pa_nil)) pa_nil)) (pg_name (i := 6) sc_is_shown.nd rfl (.inl rfl)) 
        (pss_one (ps_for PassesOwn.never rfl (pi_range2 (by rfl) T.z_range (pa_cons (pe_op op_add (pv 6) pe_int) (pa_cons (pe_op op_add (pe_callB call_len_seq (by rfl) T.z_len (by decide +kernel) (pa_cons (pv 5) pa_nil)) pe_int) pa_nil))) (pg_name (i := 7) sc_is_shown.nd rfl (.inl rfl)) 
          (pss_cons (ps_set (i := 8) sc_is_shown.nd rfl (.inl rfl) (pe_call G_cost_in (hr.mono (by decide)) (by rfl) T.g_cost_in T.f_cost_in.kp T.b_cost_in .nil pass0 (pa_cons (pv 0) (pa_cons (pv 1) (pa_cons (pv 5) (pa_cons (pe_tup (pa_cons (pv 6) (pa_cons (pv 7) pa_nil))) (pa_cons (pv 3) pa_nil)))))))
          (pss_one (ps_if (PW.pt (pw_and (pt_cmpR op_notN (pv 8) pe_non (nomark _)) (pw_and1 (pt_cmpR op_gt (pe_ix ix_tup (pv 4) (pv 6) (fun _ _ => rfl)) (pe_op op_add (pe_ix ix_tup (pv 4) (pv 7) (fun _ _ => rfl)) (pv 8)) (nomark _))))) 
            (pss_one (ps_ret pe_bl)) pss_nil))))))
      (pss_one (ps_ret pe_bl)))))), ?_⟩
    refine ⟨_, rfl, _, rfl, _, rfl, _, rfl, f, p, b, ls, ps, ws, M, rfl, hF, hP, hM, fun a H1 na e1 ha => ?_⟩
    have ht1 := e1 _ _ ht
    refine ⟨.ref t, rfl, _, _, .type "tuple", _, true, rfl, .ty _, .base (.tup ht1), kit_ty (by decide +kernel), true, rfl, ?_⟩
    refine iteF ⟨.ref t, rfl, t, iV th, rfl, .inr (SqT.of ht1), .ref a, rfl, a, _, rfl, .inl (SqL.of ha), _, 1, rfl, rfl, rfl, _, rfl, ?_⟩
    rw [show (!decide (V.int ((iV th).length : Int) = V.int (((wV ws).length : Int) + 1))) = false by rw [iV_len, wV_len, hlen]; simp]
    refine iteF ⟨.ref t, rfl, t, rfl, ⟨_, SqT.of ht1⟩, fun D hD => ?_⟩
    refine lc_it walk_tup (fun i H' => Ex H1 H' ∧ H' D = some (.lst ((List.replicate i true).map V.bl))) ⟨ex_new hD, upd_same⟩ (fun i H' _ h => SqT.of (h.1 _ _ ht1)) ?_ ?_
    · rintro i x H2 H3 hi ⟨e, hL⟩ ⟨rfl, hx⟩
      rw [iV_len] at hi
      rw [iV_at hi] at hx
      cases hx
      refine ⟨rfl, ?_⟩
      refine ⟨_, rfl, _, _, .type "int", _, true, rfl, .ty _, .base (.int _), kit_ty (by decide +kernel), true, rfl, ?_⟩
      refine iteT ⟨_, rfl, _, _, .type "int", _, false, rfl, .ty _, .base (.int _), kit_ty (by decide +kernel), false, rfl, _, hL, ?_, e.mut hD, ?_⟩
      · rw [List.length_map, List.length_replicate]
        exact small1000 (by omega)
      · rw [upd_same, List.replicate_succ', List.map_append]
        rfl
    · rintro H2 ⟨e, hL⟩
      refine ⟨D, _, rfl, SqL.of hL, ?_⟩
      rw [show ((List.replicate (iV th).length true).all id) = true by simp]
      have ht2 := e _ _ ht1
      have ha2 := e _ _ ha
      have hlast : atI (iV th) (-1) = some (.int (th.getD ws.length 0)) := by
        refine atI_m1 ?_
        rw [iV_len, show th.length - 1 = ws.length by omega]
        exact iV_at (by omega)
      refine ⟨true, rfl, iteF ⟨.ref t, rfl, 1, rfl, t, _, -1, _, rfl, rfl, SqT.of ht2, hlast, rfl, _, rfl, ?_⟩⟩
      have e12 : Ex H H2 := e1.trans e
      refine ite2 (fun hz => ?_) (fun hz => ?_)
      · have hz' : ¬ th.getD ws.length 0 = 0 := fun z => by
          rw [z] at hz
          cases hz
        refine k false ?_ _ e12
        constructor
        · intro z
          cases z
        · intro z
          exact absurd z.1 hz'
      · have hz' : th.getD ws.length 0 = 0 := by
          by_cases z : th.getD ws.length 0 = 0
          · exact z
          · refine absurd ?_ hz
            rw [decide_eq_false fun q => z (V.int.inj q)]
            rfl
        refine ⟨.ref a, rfl, a, _, rfl, .inl (SqL.of ha2), _, rfl, by rw [wV_len]; omega, by rw [wV_len]; omega, ?_⟩
        rw [wV_len, show ((ws.length : Int)).toNat = ws.length by omega]
        refine for_it walk_range (fun m σ H' => ∃ y6 y7 y8 y9, σ = [some (.ref f), some (.ref p), some (.str (sx (jn ws))), some (.int M), some (.ref t), some (.ref a), y6, y7, y8, y9] ∧ Ex H2 H' ∧ ∀ i, i < m → ∀ j x, i < j → j ≤ ws.length → Cst b ls ps ws M i j = some x → ¬ th.getD j 0 + x < th.getD i 0)
          ⟨none, none, none, none, rfl, Ex.refl _, fun i hi => by omega⟩ (fun _ _ _ _ _ => trivial) ?_ ?_
        · rintro m x σ H3 H4 hm ⟨y6, y7, y8, y9, rfl, e3, hok⟩ ⟨rfl, hx⟩
          have ex : x = .int (m : Int) := by
            rw [hx]
            show V.int ((0 : Int) + (m : Int)) = _
            rw [Int.zero_add]
          subst ex
          refine ⟨_, rfl, _, 1, rfl, rfl, .ref a, rfl, a, _, rfl, .inl (SqL.of (e3 _ _ ha2)), _, 1, rfl, rfl, _, _, rfl, ⟨by omega, by omega, by rw [wV_len]; omega, by rw [wV_len]; omega⟩, ?_⟩
          rw [wV_len, show ((ws.length : Int) + 1 - ((m : Int) + 1)).toNat = ws.length - m by omega]
          refine for_it walk_range (fun d σ H' => ∃ y7 y8 y9, σ = [some (.ref f), some (.ref p), some (.str (sx (jn ws))), some (.int M), some (.ref t), some (.ref a), some (.int (m : Int)), y7, y8, y9] ∧ Ex H2 H' ∧ ∀ j x, m < j → j ≤ m + d → Cst b ls ps ws M m j = some x → ¬ th.getD j 0 + x < th.getD m 0)
            ⟨y7, y8, y9, rfl, e3, fun j x h1 h2 => by omega⟩ (fun _ _ _ _ _ => trivial) ?_ ?_
          · rintro d x σ H5 H6 hd ⟨y7, y8, y9, rfl, e5, hin⟩ ⟨rfl, hx⟩
            obtain ⟨j, hj⟩ : ∃ j : Nat, j = m + 1 + d := ⟨_, rfl⟩
            have ex : x = .int (j : Int) := by
              rw [hx]
              show V.int ((m : Int) + 1 + (d : Int)) = _
              congr 1
              omega
            subst ex
            refine ⟨_, rfl, _, rfl, .ref a, rfl, _, rfl, _, rfl, (by show 2 ≤ sizeLine; decide), fun tu nt => ?_⟩
            have e6 : Ex H2 (upd H6 tu (.tup [.int (m : Int), .int (j : Int)])) := e5.trans (ex_new nt)
            have e06 : Ex H (upd H6 tu (.tup [.int (m : Int), .int (j : Int)])) := e12.trans e6
            refine ⟨_, rfl, f, p, a, tu, b, ls, ps, ws, M, m, j, rfl, hF.mono e06, hP.mono e06, hM, e6 _ _ ha2, upd_same, by omega, by omega, fun H7 e7 => ?_⟩
            have e27 : Ex H2 H7 := e6.trans e7
            have ht7 := e27 _ _ ht2
            refine ⟨_, rfl, rfl, _, rfl, ?_⟩
            rw [encI_none]
            have next : (∀ x, Cst b ls ps ws M m j = some x → ¬ th.getD j 0 + x < th.getD m 0) → ∀ j' x, m < j' → j' ≤ m + (d + 1) → Cst b ls ps ws M m j' = some x → ¬ th.getD j' 0 + x < th.getD m 0 := fun h j' x h1 h2 h3 => by
              by_cases ej : j' = j
              · subst ej
                exact h x h3
              · exact hin j' x h1 (by omega) h3
            cases hc : Cst b ls ps ws M m j with
            | none => exact iteF (iteF ⟨_, _, _, rfl, e27, next fun x h => by rw [hc] at h; cases h⟩)
            | some x =>
              refine iteT ⟨.ref t, rfl, _, rfl, t, _, _, _, rfl, rfl, SqT.of ht7, atI_nat (iV_at (by omega)), .ref t, rfl, _, rfl, t, _, _, _, rfl, rfl, SqT.of ht7, atI_nat (iV_at (by omega)), _, rfl, _, x, rfl, rfl, _, _, rfl, rfl, _, rfl, ite2 (fun hq => ?_) (fun hq => ?_)⟩
              · have hq' : th.getD j 0 + x < th.getD m 0 := of_decide_eq_true hq
                refine k false ?_ _ (e12.trans e27)
                constructor
                · intro z
                  cases z
                · intro z
                  exact absurd hq' (z.2 m hm j x (by omega) (by omega) hc)
              · refine ⟨_, _, _, rfl, e27, next fun y h => ?_⟩
                rw [hc] at h
                cases h
                exact fun z => hq (decide_eq_true z)
          · rintro σ H5 ⟨y7, y8, y9, rfl, e5, hin⟩
            refine ⟨_, _, _, _, rfl, e5, fun i hi j x h1 h2 h3 => ?_⟩
            by_cases ei : i = m
            · subst ei
              exact hin j x h1 (by omega) h3
            · exact hok i (by omega) j x h1 h2 h3
        · rintro σ H3 ⟨y6, y7, y8, y9, rfl, e3, hok⟩
          refine k true ?_ _ (e12.trans e3)
          constructor
          · intro _
            exact ⟨hz', hok⟩
          · intro _
            rfl
def sp_spread : Sp := fun vs H Q _ => ∃ f p b ls ps ws M, vs = [.ref f, .ref p, .str (sx (jn ws)), .int M] ∧ FaceAt H f b ls ∧ PairsAt H p ps ∧ WOk ls ws ∧ 2 ≤ ws.length ∧ 1 ≤ M ∧ M ≤ 999 ∧ Wd b ls ps (jn ws) ≤ M ∧
  RT1 (iV (blanks b ((M - Wd b ls ps (jn ws)) / ((ws.length - 1 : Nat) : Int)) ((M - Wd b ls ps (jn ws)) % ((ws.length - 1 : Nat) : Int)) (ws.length - 1))) H Q
theorem ok_spread (T : Tx K mg) : FnOk P w K mg base CX0 6 T.a_spread T.d_spread ["face", "pairs", "text", "number"] sp_spread := by
  have G_words_of : FnOk P w K mg base CX0 5 T.a_words_of T.d_words_of ["face", "text"] sp_words_of := ok_words_of T
  have G_need_wide : FnOk P w K mg base CX0 2 T.a_need_wide T.d_need_wide ["number"] sp_need_wide := ok_need_wide T
  have G_room_of : FnOk P w K mg base CX0 5 T.a_room_of T.d_room_of ["face", "pairs", "line", "number"] sp_room_of := ok_room_of T
  refine T.f_spread.ok sc_spread (fun vs H Q E h => ?_) (fun cdv A outer s H vs Q E hr h => ?_)
  · obtain ⟨f, p, b, ls, ps, ws, M, rfl, _⟩ := h
    rfl
  · obtain ⟨f, p, b, ls, ps, ws, M, rfl, hF, hP, hW, h2, m1, m2, hfit, k⟩ := h
    have few := hW.few
    refine ⟨_,       (pss_cons (ps_set (i := 4) sc_spread.nd rfl (.inl rfl) (pe_call G_words_of (hr.mono (by decide)) (by rfl) T.g_words_of T.f_words_of.kp T.b_words_of .nil pass0 (pa_cons (pv 0) (pa_cons (pv 2) pa_nil))))
      (pss_cons (ps_if (pt_cmpR op_lt (pe_callB call_len_seq (by rfl) T.z_len (by decide +kernel) (pa_cons (pv 4) pa_nil)) pe_int (nomark _)) 
        (pss_one ps_never) pss_nil)
      (pss_cons (ps_expr (pe_call G_need_wide (hr.mono (by decide)) (by rfl) T.g_need_wide T.f_need_wide.kp T.b_need_wide .nil pass0 (pa_cons (pv 3) pa_nil)))
      (pss_cons (ps_set (i := 5) sc_spread.nd rfl (.inl rfl) (pe_call G_room_of (hr.mono (by decide)) (by rfl) T.g_room_of T.f_room_of.kp T.b_room_of .nil pass0 (pa_cons (pv 0) (pa_cons (pv 1) (pa_cons (pv 2) (pa_cons (pv 3) pa_nil))))))
      (pss_cons (ps_if (pt_cmpR op_lt (pv 5) pe_int (nomark _)) 
        (pss_one ps_never) pss_nil)
      (pss_cons (ps_asg (pe_callB call_divmod (by rfl) T.z_divmod (by decide +kernel) (pa_cons (pv 5) (pa_cons (pe_op op_sub (pe_callB call_len_seq (by rfl) T.z_len (by decide +kernel) (pa_cons (pv 4) pa_nil)) pe_int) pa_nil))) (pg_tup rfl (pgs_cons (pg_name (i := 6) sc_spread.nd rfl (.inr rfl)) (pgs_cons (pg_name (i := 7) sc_spread.nd rfl (.inr rfl)) pgs_nil))))
      (pss_one (ps_ret (pe_callTy call_tuple_of (by rfl) T.z_tuple (by decide +kernel) (pa_cons (pe_lc (own := [("place", 8)]) (g := gName 8) (tt := tYes) rfl sc_spread.nd (pi_range1 (by rfl) T.z_range (pa_cons (pe_op op_sub (pe_callB call_len_seq (by rfl) T.z_len (by decide +kernel) (pa_cons (pv 4) pa_nil)) pe_int) pa_nil)) (blkOk_by (own := [("place", 8)]) (N := N_spread) (sc := defScope s_spread) (by decide +kernel)) (fun _ _ _ _ _ => (pg_name (i := 8) sc_spread.nd rfl (.inl rfl))) (fun _ _ _ _ _ => pts_nil) (fun _ _ _ _ _ => (pe_op op_add (pe_op op_add (pe_ix (k_ix_tup K) (pv 0) pe_int (fun _ _ => rfl)) (pv 6)) (pe_callTy call_int1 (by rfl) T.z_int (by decide +kernel) (pa_cons (pe_cmpR op_lt (pv 8) (pv 7) (nomark _)) pa_nil))))) pa_nil)))))))))), ?_⟩
    refine ⟨_, rfl, _, rfl, f, b, ls, ws, rfl, hF, hW, fun a H1 na e1 ha => ?_⟩
    refine ⟨.ref a, rfl, a, _, rfl, .inl (SqL.of ha), _, 2, rfl, rfl, _, rfl, ?_⟩
    rw [decide_eq_false (show ¬ ((wV ws).length : Int) < 2 by rw [wV_len]; omega)]
    refine iteF ⟨_, rfl, M, rfl, m1, m2, fun H2 e2 => ?_⟩
    have e02 := e1.trans e2
    refine ⟨_, rfl, _, rfl, _, rfl, _, rfl, f, p, b, ls, ps, jn ws, M, rfl, hF.mono e02, hP.mono e02, hW.tok, fun H3 e3 => ?_⟩
    have e03 := e02.trans e3
    refine ⟨_, rfl, _, 0, rfl, rfl, _, rfl, ?_⟩
    rw [decide_eq_false (show ¬ M - Wd b ls ps (jn ws) < 0 by omega)]
    have ha3 := e3 _ _ (e2 _ _ ha)
    refine iteF ⟨_, rfl, .ref a, rfl, a, _, rfl, .inl (SqL.of ha3), _, 1, rfl, rfl, _, _, rfl, ⟨by rw [wV_len]; omega, by rw [wV_len]; omega⟩, fun tu nt => ?_⟩
    refine ⟨tu, _, rfl, SqT.of upd_same, rfl, _, _, rfl, _, _, rfl, rfl, ?_⟩
    rw [wV_len, show ((ws.length : Int) - 1) = ((ws.length - 1 : Nat) : Int) by omega]
    generalize hH4 : upd H3 tu _ = H4
    have e04 : Ex H H4 := by
      rw [← hH4]
      exact e03.trans (ex_new nt)
    have ha4 : H4 a = some (.lst (wV ws)) := by
      rw [← hH4]
      exact ex_new nt _ _ ha3
    obtain ⟨q, hf4, _⟩ := hF.mono e04
    generalize hk : ws.length - 1 = n at k ⊢
    refine ⟨.ref a, rfl, a, _, rfl, .inl (SqL.of ha4), _, 1, rfl, rfl, _, rfl, by rw [wV_len]; omega, by rw [wV_len]; omega, fun D hD => ?_⟩
    rw [wV_len, show ((ws.length : Int) - 1).toNat = n by omega]
    generalize (M - Wd b ls ps (jn ws)) / (n : Int) = each at k ⊢
    generalize (M - Wd b ls ps (jn ws)) % (n : Int) = left at k ⊢
    refine lc_it walk_range (fun i H' => Ex H4 H' ∧ H' D = some (.lst (iV (blanks b each left i)))) ⟨ex_new hD, upd_same⟩ (fun _ _ _ _ => trivial) ?_ ?_
    · rintro i x H5 H6 hi ⟨e, hL⟩ ⟨rfl, hx⟩
      have ex : x = .int (i : Int) := by
        rw [hx]
        show V.int ((0 : Int) + (i : Int)) = _
        rw [Int.zero_add]
      subst ex
      refine ⟨rfl, .ref f, rfl, f, _, 0, .int b, rfl, rfl, SqT.of (e _ _ hf4), rfl, .int each, rfl, b, each, rfl, rfl, .int (i : Int), rfl, .int left, rfl, (i : Int), left, rfl, rfl, .inr ⟨_, rfl, _, _, rfl, rfl, _, hL, ?_, e.mut hD, ?_⟩⟩
      · rw [iV_len, blanks_len]
        exact small1000 (by omega)
      · rw [upd_same]
        unfold blanks iV
        rw [List.range_succ, List.map_append, List.map_append]
        congr 4
        simp only [List.map_cons, List.map_nil, decide_eq_true_eq]
    · rintro H5 ⟨e, hL⟩
      exact ⟨D, _, rfl, .inl ⟨SqL.of hL, fun l hl => k l _ (fresh_back (e04.trans e) hl) ((e04.trans e).trans (ex_new hl)) upd_same⟩⟩
end
end K96
namespace K96
open PySem PySem.Spec PyProof.Rows L2 Evl TL
/-! ### the law's helpers that change nothing -/
structure FOk (b : Int) (ls : List (Nat × Int)) : Prop where
  b1 : 1 ≤ b
  b2 : b ≤ 99
  n1 : 1 ≤ ls.length
  n2 : ls.length ≤ 6
  nd : (ls.map (·.1)).Nodup
  cs : ∀ x ∈ ls, 97 ≤ x.1 ∧ x.1 ≤ 122
  ws : ∀ x ∈ ls, 10 ≤ x.2 ∧ x.2 ≤ 99
structure GOk (ps : List (Nat × Nat × Int)) : Prop where
  small : ∀ x ∈ ps, x.1 < 1000 ∧ x.2.1 < 1000
  low : ∀ x ∈ ps, -9 ≤ x.2.2 ∧ x.2.2 ≤ 9
  few : ps.length ≤ 100
def chV (ls : List (Nat × Int)) : List V := ls.map fun x => V.str (sx [x.1])
theorem chV_len (ls : List (Nat × Int)) : (chV ls).length = ls.length := by simp [chV]
theorem chV_at {ls : List (Nat × Int)} {i : Nat} {x : Nat × Int} (h : ls[i]? = some x) : (chV ls)[i]? = some (.str (sx [x.1])) := by
  unfold chV
  rw [List.getElem?_map, h]
  rfl
theorem take_snoc {α : Type} {l : List α} {i : Nat} {x : α} (h : l[i]? = some x) : l.take (i + 1) = l.take i ++ [x] := by
  rw [List.take_add_one, h]
  rfl
/-- rows of gaps: n lists of n ints -/
def RowsAt (H : Hp) (a : Addr) (n : Nat) : Prop :=
  ∃ rr : List Addr, H a = some (.lst (rr.map V.ref)) ∧ rr.length = n ∧ ∀ r ∈ rr, ∃ xs : List Int, H r = some (.lst (iV xs)) ∧ xs.length = n ∧ ∀ x ∈ xs, -9 ≤ x ∧ x ≤ 9
theorem RowsAt.mono {H H' : Hp} {a : Addr} {n : Nat} (e : Ex H H') (h : RowsAt H a n) : RowsAt H' a n := by
  obtain ⟨rr, h1, h2, h3⟩ := h
  exact ⟨rr, e _ _ h1, h2, fun r hr => let ⟨xs, a, b⟩ := h3 r hr; ⟨xs, e _ _ a, b⟩⟩
theorem dTup_shaped {ws : List (List Nat)} (h : ∀ w ∈ ws, ∀ c ∈ w, c < 1000) : SeqAt.shaped (.tuple (dStr ws)) = true := by
  have h1 := dStr_depth ws
  have h2 : PyData.depth (.tuple (dStr ws)) ≤ 64 := by
    simp only [PyData.depth]
    omega
  show (PyData.canLay0 (.tuple (dStr ws)) && decide (PyData.depth (.tuple (dStr ws)) ≤ 64)) = true
  rw [Bool.and_eq_true]
  exact ⟨by simp only [PyData.canLay0]; exact dStr_lay ws h, decide_eq_true h2⟩
theorem pair_eqv (a c x y : Nat) : PyData.eqv (.tuple (dStr [[a], [c]])) (.tuple (dStr [[x], [y]])) = (a == x && c == y) := by
  have e1 : ∀ u v : Nat, (sx [u] == sx [v]) = (u == v) := fun u v => by
    by_cases h : u = v
    · subst h
      simp
    · rw [show (u == v) = false by simp [h]]
      exact beq_eq_false_iff_ne.mpr fun q => h (by simpa using sx_inj q)
  simp [dStr, PyData.eqv, PyData.eqvAll, e1]
section
variable {P : Program} {w : World} {K : PySem.W.Frag} {mg : Str → Option Value} {base : Heap}
def sp_law_letters : Sp := fun vs H Q _ => ∃ f b ls, vs = [.ref f] ∧ FaceAt H f b ls ∧ ls.length ≤ 100 ∧ RL1 (chV ls) H Q
theorem ok_law_letters (T : Tx K mg) : FnOk P w K mg base CX0 1 T.a_law_letters T.d_law_letters ["_law_face_here"] sp_law_letters := by
  refine T.f_law_letters.ok sc_law_letters (fun vs H Q E h => ?_) (fun cdv A outer s H vs Q E hr h => ?_)
  · obtain ⟨f, b, ls, rfl, _⟩ := h
    rfl
  · obtain ⟨f, b, ls, rfl, ⟨q, hf, rs, hq, hlen, hrs⟩, few, k⟩ := h
    refine ⟨_,       (pss_one (ps_ret (pe_lc (own := [("_law_one", 1)]) (g := gName 1) (tt := tYes) rfl sc_law_letters.nd (pi_tup (pe_ix ix_tup (pv 0) pe_int (fun _ _ => rfl))) (blkOk_by (own := [("_law_one", 1)]) (N := N_law_letters) (sc := defScope s_law_letters) (by decide +kernel)) (fun _ _ _ _ _ => (pg_name (i := 1) sc_law_letters.nd rfl (.inl rfl))) (fun _ _ _ _ _ => pts_nil) (fun _ _ _ _ _ => (pe_ix (k_ix_tup K) (pv 1) pe_int (fun _ _ => rfl)))))), ?_⟩
    refine ⟨.ref f, rfl, f, _, 1, .ref q, rfl, rfl, SqT.of hf, rfl, q, rfl, ⟨_, SqT.of hq⟩, fun D hD => ?_⟩
    refine lc_it walk_tup (fun i H' => Ex H H' ∧ H' D = some (.lst (chV (ls.take i)))) ⟨ex_new hD, upd_same⟩ (fun i H' _ h => SqT.of (h.1 _ _ hq)) ?_ ?_
    · rintro i x H1 H2 hi ⟨e, hL⟩ ⟨rfl, hx⟩
      rw [List.length_map] at hi
      rw [row_at hi] at hx
      cases hx
      have g1 : rs[i]? = some rs[i] := List.getElem?_eq_getElem hi
      have g2 : ls[i]? = some ls[i] := List.getElem?_eq_getElem (by omega)
      refine ⟨rfl, .ref rs[i], rfl, rs[i], ltV ls[i], 0, .str (sx [ls[i].1]), rfl, rfl, SqT.of (e _ _ (hrs i _ _ g1 g2)), rfl, _, hL, ?_, e.mut hD, ?_⟩
      · rw [chV_len, List.length_take]
        exact small1000 (by omega)
      · rw [upd_same, take_snoc g2]
        unfold chV
        rw [List.map_append]
        rfl
    · rintro H1 ⟨e, hL⟩
      rw [List.length_map, List.take_of_length_le (by omega)] at hL
      exact k D H1 hD e hL
def sp_law_list : Sp := fun vs H Q _ => ∃ f a b ls, vs = [.ref f, .ref a] ∧ FaceAt H f b ls ∧ FOk b ls ∧ RowsAt H a ls.length ∧ ∀ p H' ps, H p = none → Ex H H' → PairsAt H' p ps → GOk ps → Q (.ref p) H'
theorem ok_law_list (T : Tx K mg) : FnOk P w K mg base CX0 2 T.a_law_list T.d_law_list ["_law_face_here", "_law_rows_here"] sp_law_list := by
  have G_law_letters : FnOk P w K mg base CX0 1 T.a_law_letters T.d_law_letters ["_law_face_here"] sp_law_letters := ok_law_letters T
  refine T.f_law_list.ok sc_law_list (fun vs H Q E h => ?_) (fun cdv A outer s H vs Q E hr h => ?_)
  · obtain ⟨f, a, b, ls, rfl, _⟩ := h
    rfl
  · obtain ⟨f, a, b, ls, rfl, hF, hO, ⟨rr, hr1, hr2, hr3⟩, k⟩ := h
    have n2 := hO.n2
    refine ⟨_,       (pss_cons (ps_set (i := 2) sc_law_list.nd rfl (.inl rfl) (pe_call G_law_letters (hr.mono (by decide)) (by rfl) T.g_law_letters T.f_law_letters.kp T.b_law_letters .nil pass0 (pa_cons (pv 0) pa_nil)))
      (pss_cons (ps_set (i := 3) sc_law_list.nd rfl (.inl rfl) (pe_lst pa_nil))
      (pss_cons (ps_for PassesOwn.never rfl (pi_zip (by rfl) T.z_zip (pa_cons (pv 2) (pa_cons (pv 1) pa_nil))) (pg_tup rfl (pgs_cons (pg_name (i := 4) sc_law_list.nd rfl (.inl rfl)) (pgs_cons (pg_name (i := 5) sc_law_list.nd rfl (.inl rfl)) pgs_nil))) 
        (pss_one (ps_for PassesOwn.never rfl (pi_zip (by rfl) T.z_zip (pa_cons (pv 2) (pa_cons (pv 5) pa_nil))) (pg_tup rfl (pgs_cons (pg_name (i := 6) sc_law_list.nd rfl (.inl rfl)) (pgs_cons (pg_name (i := 7) sc_law_list.nd rfl (.inl rfl)) pgs_nil))) 
          (pss_one (ps_if (pt_cmpR op_ne (pv 7) pe_int (nomark _)) 
            (pss_one (ps_expr (pe_bm PySem.F.plainAttrs_list PySem.F.slot_list_append PySem.F.type_list_append mt_append (pv 3) (pa_cons (pe_tup (pa_cons (pv 4) (pa_cons (pv 6) (pa_cons (pv 7) pa_nil)))) pa_nil)))) pss_nil)))))
      (pss_one (ps_ret (pe_callTy call_tuple_of (by rfl) T.z_tuple (by decide +kernel) (pa_cons (pv 3) pa_nil))))))), ?_⟩
    refine ⟨_, rfl, f, b, ls, rfl, hF, by omega, fun la H1 nla e1 hla => ?_⟩
    refine ⟨Nat.zero_le _, fun o no => ?_⟩
    have e1o : Ex H1 (upd H1 o (.lst [])) := ex_new no
    have hla2 := e1o _ _ hla
    refine ⟨.ref la, rfl, .ref a, rfl, la, a, chV ls, rr.map V.ref, rfl, SqL.of hla2, SqL.of (e1o _ _ (e1 _ _ hr1)), ?_⟩
    -- found: tuples of letters and gaps, at most six a row
    let Inv (m : Nat) (H' : Hp) : Prop := Ex H1 H' ∧ ∃ (rs : List Addr) (ps : List (Nat × Nat × Int)), H' o = some (.lst (rs.map V.ref)) ∧ rs.length = ps.length ∧ ps.length ≤ m ∧ (∀ x ∈ ps, x.1 < 1000 ∧ x.2.1 < 1000) ∧ (∀ x ∈ ps, -9 ≤ x.2.2 ∧ x.2.2 ≤ 9) ∧ ∀ (i : Nat) (r : Addr) (x : Nat × Nat × Int), rs[i]? = some r → ps[i]? = some x → H' r = some (.tup (prV x))
    refine for_it (walk_zip rfl) (fun i σ H' => ∃ y4 y5 y6 y7, σ = [some (.ref f), some (.ref a), some (.ref la), some (.ref o), y4, y5, y6, y7] ∧ Inv (i * 6) H') ⟨none, none, none, none, rfl, e1o, [], [], upd_same, rfl, Nat.le_refl _, (fun _ h => nomatch h), (fun _ h => nomatch h), fun _ _ _ h => by simp at h⟩
      (fun i σ H' _ ⟨_, _, _, _, _, e, _⟩ => ⟨SqL.of (e _ _ hla), SqL.of (e _ _ (e1 _ _ hr1))⟩) ?_ ?_
    · rintro i x σ H3 H4 hi ⟨y4, y5, y6, y7, rfl, e, rs, ps, hL, hlen, hm, hsm, hlo, hps⟩ ⟨Tp, x1, x2, rfl, nT, rfl, hx1, hx2⟩
      have hi1 : i < ls.length := by rw [chV_len, List.length_map] at hi; omega
      have hi2 : i < rr.length := by rw [chV_len, List.length_map] at hi; omega
      replace hx1 : (chV ls)[i]? = some x1 := hx1
      replace hx2 : (rr.map V.ref)[i]? = some x2 := hx2
      rw [chV_at (List.getElem?_eq_getElem hi1)] at hx1
      cases hx1
      rw [row_at hi2] at hx2
      cases hx2
      obtain ⟨xs, hxs, xlen, xlo⟩ := hr3 _ (List.getElem_mem hi2)
      have eT : Ex H1 (upd H3 Tp (.tup [.str (sx [ls[i].1]), .ref rr[i]])) := e.trans (ex_new nT)
      refine ⟨Tp, _, rfl, SqT.of upd_same, rfl, _, _, rfl, _, _, rfl, rfl, ?_⟩
      have hxs1 := e1 _ _ hxs
      refine ⟨.ref la, rfl, .ref rr[i], rfl, la, rr[i], chV ls, iV xs, rfl, SqL.of (eT _ _ hla), SqL.of (eT _ _ hxs1), ?_⟩
      have oT : o ≠ Tp := ne_of_none hL nT
      refine for_it (walk_zip rfl) (fun j σ H' => ∃ y6 y7, σ = [some (.ref f), some (.ref a), some (.ref la), some (.ref o), some (.str (sx [ls[i].1])), some (.ref rr[i]), y6, y7] ∧ Inv (i * 6 + j) H')
        ⟨y6, y7, rfl, eT, rs, ps, by rw [upd_ne oT]; exact hL, hlen, hm, hsm, hlo, fun i' r' x' h1 h2 => ex_new nT _ _ (hps i' r' x' h1 h2)⟩
        (fun j σ H' _ ⟨_, _, _, e, _⟩ => ⟨SqL.of (e _ _ hla), SqL.of (e _ _ hxs1)⟩) ?_ ?_
      · rintro j x σ H5 H6 hj ⟨y6, y7, rfl, e5, rs, ps, hL, hlen, hm, hsm, hlo, hps⟩ ⟨Tu, x1, x2, rfl, nU, rfl, hx1, hx2⟩
        have hj1 : j < ls.length := by rw [chV_len, iV_len] at hj; omega
        have hj2 : j < xs.length := by rw [chV_len, iV_len] at hj; omega
        replace hx1 : (chV ls)[j]? = some x1 := hx1
        replace hx2 : (iV xs)[j]? = some x2 := hx2
        rw [chV_at (List.getElem?_eq_getElem hj1)] at hx1
        cases hx1
        rw [iV_at hj2] at hx2
        cases hx2
        have oU : o ≠ Tu := ne_of_none hL nU
        have eU : Ex H1 (upd H5 Tu (.tup [.str (sx [ls[j].1]), .int (xs.getD j 0)])) := e5.trans (ex_new nU)
        have hLU : (upd H5 Tu (.tup [.str (sx [ls[j].1]), .int (xs.getD j 0)])) o = some (.lst (rs.map V.ref)) := by rw [upd_ne oU]; exact hL
        have hpsU : ∀ (i : Nat) (r : Addr) (x : Nat × Nat × Int), rs[i]? = some r → ps[i]? = some x → (upd H5 Tu (.tup [.str (sx [ls[j].1]), .int (xs.getD j 0)])) r = some (.tup (prV x)) := fun i' r' x' h1 h2 => ex_new nU _ _ (hps i' r' x' h1 h2)
        refine ⟨Tu, _, rfl, SqT.of upd_same, rfl, _, _, rfl, _, _, rfl, rfl, ?_⟩
        generalize upd H5 Tu (.tup [.str (sx [ls[j].1]), .int (xs.getD j 0)]) = H6 at eU hLU hpsU ⊢
        refine ⟨_, rfl, rfl, _, rfl, ite2 (fun hz => ?_) (fun hz => ?_)⟩
        · refine ⟨.ref o, rfl, .inl ⟨rfl, _, SqL.of hLU⟩, _, rfl, _, rfl, _, rfl, (by show 3 ≤ sizeLine; decide), fun t nt => ?_⟩
          have ot : o ≠ t := ne_of_none hLU nt
          have hLt : (upd H6 t (.tup [.str (sx [ls[i].1]), .str (sx [ls[j].1]), .int (xs.getD j 0)])) o = some (.lst (rs.map V.ref)) := by rw [upd_ne ot]; exact hLU
          refine ⟨o, _, _, rfl, rfl, hLt, ?_, _, _, rfl, (eU.trans (ex_new nt)).mut no, rs ++ [t], ps ++ [(ls[i].1, ls[j].1, xs.getD j 0)], ?_, ?_, ?_, ?_, ?_, ?_⟩
          · rw [List.length_map, hlen]
            have : i * 6 ≤ 5 * 6 := Nat.mul_le_mul_right _ (by omega)
            exact small1000 (by omega)
          · rw [upd_same, List.map_append]
            rfl
          · simp [hlen]
          · simp only [List.length_append, List.length_singleton]
            omega
          · intro x hx
            rcases List.mem_append.mp hx with hx | hx
            · exact hsm x hx
            · cases List.mem_singleton.mp hx
              have q1 := hO.cs _ (List.getElem_mem hi1)
              have q2 := hO.cs _ (List.getElem_mem hj1)
              exact ⟨by show ls[i].1 < 1000; omega, by show ls[j].1 < 1000; omega⟩
          · intro x hx
            rcases List.mem_append.mp hx with hx | hx
            · exact hlo x hx
            · cases List.mem_singleton.mp hx
              refine xlo _ ?_
              rw [List.getD_eq_getElem?_getD, List.getElem?_eq_getElem hj2]
              exact List.getElem_mem hj2
          · intro i' r' x' h1 h2
            by_cases hlt : i' < rs.length
            · rw [List.getElem?_append_left hlt] at h1
              rw [List.getElem?_append_left (by omega)] at h2
              have q := hpsU i' r' x' h1 h2
              have qo : r' ≠ o := ne_of q hLU (by intro z; cases z)
              rw [upd_ne qo]
              exact ex_new nt _ _ q
            · have hb := (List.getElem?_eq_some_iff.mp h1).1
              rw [List.length_append, List.length_singleton] at hb
              have ei : i' = rs.length := by omega
              subst ei
              rw [List.getElem?_append_right (Nat.le_refl _), Nat.sub_self] at h1
              rw [hlen, List.getElem?_append_right (Nat.le_refl _), Nat.sub_self] at h2
              cases h1
              cases h2
              rw [upd_ne (Ne.symm ot), upd_same]
              rfl
        · exact ⟨_, _, rfl, eU, rs, ps, hLU, hlen, by omega, hsm, hlo, hpsU⟩
      · rintro σ H5 ⟨y6, y7, rfl, e5, rs, ps, hL, hlen, hm, hsm, hlo, hps⟩
        refine ⟨_, _, _, _, rfl, e5, rs, ps, hL, hlen, ?_, hsm, hlo, hps⟩
        rw [chV_len, iV_len] at hm
        rw [Nat.succ_mul]
        omega
    · rintro σ H3 ⟨y4, y5, y6, y7, rfl, e, rs, ps, hL, hlen, hm, hsm, hlo, hps⟩
      have hm2 : ps.length ≤ 36 := by
        rw [chV_len, List.length_map] at hm
        have : min ls.length rr.length * 6 ≤ 6 * 6 := Nat.mul_le_mul_right _ (by omega)
        omega
      refine ⟨.ref o, rfl, o, _, rfl, .inl ⟨SqL.of hL, fun l hl => ?_⟩⟩
      have ef := (e1.trans e).trans (ex_new (o := .tup (rs.map V.ref)) hl)
      exact k l _ ps (fresh_back (e1.trans e) hl) ef ⟨rs, upd_same, hlen, fun i r x h1 h2 => ex_new hl _ _ (hps i r x h1 h2)⟩ ⟨hsm, hlo, by omega⟩
end
end K96
namespace K96
open PySem PySem.Spec PyProof.Rows L2 Evl TL
/-! ### dicts by pairs -/
theorem valV_merge_out {k : Key} : ∀ {more acc : List (Key × V)}, (∀ p ∈ more, ¬ p.1 = k) → valV (mergeK acc more) k = valV acc k
  | [], _, _ => rfl
  | p :: r, acc, h => by
    show valV (mergeK (putK acc p.1 p.2) r) k = _
    rw [valV_merge_out (fun q hq => h q (List.mem_cons_of_mem _ hq)), valV_put, if_neg fun e => h p (by simp) e.symm]
theorem valV_merge_in {k : Key} {v : V} : ∀ {more acc : List (Key × V)}, (more.map (·.1)).Nodup → (k, v) ∈ more → valV (mergeK acc more) k = some v
  | [], _, _, h => nomatch h
  | p :: r, acc, nd, h => by
    rw [List.map_cons, List.nodup_cons] at nd
    show valV (mergeK (putK acc p.1 p.2) r) k = _
    rcases List.mem_cons.mp h with e | h
    · rw [← e] at nd ⊢
      rw [valV_merge_out (fun q hq e => nd.1 (List.mem_map.mpr ⟨q, hq, e⟩)), valV_put, if_pos rfl]
    · exact valV_merge_in nd.2 h
/-- the widths' dict -/
def brd (b : Int) (ls : List (Nat × Int)) : List (Key × V) := ls.map (fun x => ((Sum.inr (sx [x.1]) : Key), V.int x.2)) ++ [((Sum.inr (Str.ofString " ") : Key), V.int b)]
theorem brd_nd {b : Int} {ls : List (Nat × Int)} (h : FOk b ls) : ((brd b ls).map (·.1)).Nodup := by
  unfold brd
  rw [List.map_append, List.map_map, blk_eq, List.nodup_append]
  refine ⟨?_, by simp, ?_⟩
  · have e : ls.map ((fun p : Key × V => p.1) ∘ fun x : Nat × Int => ((Sum.inr (sx [x.1]) : Key), V.int x.2)) = (ls.map (·.1)).map fun c => (Sum.inr (sx [c]) : Key) := by
      rw [List.map_map]
      rfl
    rw [e]
    refine List.Pairwise.map _ (fun a c hne => ?_) h.nd
    intro q
    have := sx_inj (Sum.inr.inj q)
    exact hne (by simpa using this)
  · intro x hx y hy
    obtain ⟨z, hz, rfl⟩ := List.mem_map.mp hx
    simp only [List.map_cons, List.map_nil, List.mem_singleton] at hy
    subst hy
    intro q
    have := sx_inj (Sum.inr.inj q)
    have h2 := (h.cs z hz).1
    simp at this
    omega
theorem plc_some {ls : List (Nat × Int)} {c i : Nat} (h : plc ls c = some i) : ∃ x, ls[i]? = some x ∧ x.1 = c := by
  obtain ⟨hi, e⟩ := List.findIdx?_eq_some_iff_findIdx_eq.mp h
  subst e
  refine ⟨_, List.getElem?_eq_getElem hi, ?_⟩
  have := List.findIdx_getElem (xs := ls) (p := fun p => p.1 == c) (w := hi)
  simpa using this
theorem okc_some {ls : List (Nat × Int)} {c : Nat} (h : okc ls c = true) (h32 : c ≠ 32) : ∃ i x, plc ls c = some i ∧ ls[i]? = some x ∧ x.1 = c := by
  unfold okc at h
  rw [show (c == 32) = false by simp [h32], Bool.false_or] at h
  obtain ⟨i, hi⟩ := Option.isSome_iff_exists.mp h
  obtain ⟨x, h1, h2⟩ := plc_some hi
  exact ⟨i, x, hi, h1, h2⟩
theorem swd_at {b : Int} {ls : List (Nat × Int)} {c i : Nat} {x : Nat × Int} (h32 : c ≠ 32) (h : plc ls c = some i) (hx : ls[i]? = some x) : swd b ls c = x.2 := by
  unfold swd
  rw [if_neg h32, h]
  show (ls.getD i (0, 0)).2 = _
  rw [List.getD_eq_getElem?_getD, hx]
  rfl
theorem brd_at {b : Int} {ls : List (Nat × Int)} (h : FOk b ls) {c : Nat} (ok : okc ls c = true) (h32 : c ≠ 32) : valV (mergeK [] (brd b ls)) (Sum.inr (sx [c]) : Key) = some (.int (swd b ls c)) := by
  obtain ⟨i, x, hi, hx, hc⟩ := okc_some ok h32
  refine valV_merge_in (brd_nd h) ?_
  unfold brd
  refine List.mem_append_left _ (List.mem_map.mpr ⟨x, List.mem_of_getElem? hx, ?_⟩)
  rw [hc, swd_at h32 hi hx]
theorem cut_tail (t : List Nat) : cutS (sx t) (some 1) none = sx t.tail := by
  refine ext_tl ?_
  show (((sx t).cps.toList.drop (HT.sIx (sx t).length 0 (some 1))).take (HT.sIx (sx t).length (sx t).length none - HT.sIx (sx t).length 0 (some 1))) = t.tail
  have e1 : HT.sIx (sx t).length 0 (some 1) = min 1 (sx t).length := HT.sIx_nat _ _ 1
  rw [e1, HT.sIx_none, sx_len]
  cases t with
  | nil => rfl
  | cons c r =>
    rw [List.length_cons, Nat.min_eq_left (by omega)]
    show (r.take (r.length + 1 - 1)) = r
    rw [Nat.add_sub_cancel, List.take_length]
theorem paired_get {α β : Type} {F : α → β → Prop} : ∀ {l₁ : List α} {l₂ : List β}, l₁.length = l₂.length → (∀ (i : Nat) (a : α) (b : β), l₁[i]? = some a → l₂[i]? = some b → F a b) → Paired F l₁ l₂
  | [], [], _, _ => .nil
  | [], _ :: _, h, _ => by simp at h
  | _ :: _, [], h, _ => by simp at h
  | a :: l₁, b :: l₂, h, f => .cons (f 0 a b rfl rfl) (paired_get (by simpa using h) fun i x y h1 h2 => f (i + 1) x y h1 h2)
theorem zip_range (g : Nat → Nat → Int) (t : List Nat) : ((t.zip t.tail).map fun p => g p.1 p.2) = (List.range (min t.length (t.length - 1))).map fun j => g (t.getD j 0) (t.getD (j + 1) 0) := by
  refine List.ext_getElem (by simp) fun i h1 h2 => ?_
  have hi : i + 1 < t.length := by
    simp only [List.length_map, List.length_range] at h2
    omega
  rw [List.getElem_map, List.getElem_zip, List.getElem_map, List.getElem_range, List.getElem_tail]
  rw [List.getD_eq_getElem?_getD, List.getD_eq_getElem?_getD, List.getElem?_eq_getElem (by omega), List.getElem?_eq_getElem hi]
  rfl
/-- the gaps told for two letters -/
def gs (ps : List (Nat × Nat × Int)) (a c : Nat) : List Int := (ps.filter fun p => p.1 == a && p.2.1 == c).map fun p => p.2.2
theorem gs_len (ps : List (Nat × Nat × Int)) (a c : Nat) : (gs ps a c).length ≤ ps.length := by
  unfold gs
  rw [List.length_map]
  exact List.length_filter_le _ _
theorem gs_yes {ps : List (Nat × Nat × Int)} {a c : Nat} {x : Nat × Nat × Int} (h : (x.1 == a && x.2.1 == c) = true) : gs (ps ++ [x]) a c = gs ps a c ++ [x.2.2] := by
  unfold gs
  rw [List.filter_append, List.map_append, List.filter_cons, if_pos h]
  rfl
theorem gs_no {ps : List (Nat × Nat × Int)} {a c : Nat} {x : Nat × Nat × Int} (h : ¬ (x.1 == a && x.2.1 == c) = true) : gs (ps ++ [x]) a c = gs ps a c := by
  unfold gs
  rw [List.filter_append, List.map_append, List.filter_cons, if_neg h]
  simp
theorem fold_gap (ps : List (Nat × Nat × Int)) (a c : Nat) : (gs ps a c ++ [0]).getD 0 0 = gap ps a c := by
  unfold gap gs
  induction ps with
  | nil => rfl
  | cons p r ih =>
    rw [List.filter_cons, List.find?_cons]
    by_cases h : (p.1 == a && p.2.1 == c) = true
    · rw [if_pos h, h]
      rfl
    · rw [if_neg h, show (p.1 == a && p.2.1 == c) = false by simpa using h]
      exact ih
section
variable {P : Program} {w : World} {K : PySem.W.Frag} {mg : Str → Option Value} {base : Heap}
def sp_law_gap : Sp := fun vs H Q _ => ∃ p ps a c, vs = [.ref p, .str (sx [a]), .str (sx [c])] ∧ PairsAt H p ps ∧ GOk ps ∧ a < 1000 ∧ c < 1000 ∧ RV1 (.int (gap ps a c)) H Q
theorem ok_law_gap (T : Tx K mg) : FnOk P w K mg base CX0 1 T.a_law_gap T.d_law_gap ["_law_pairs_here", "_law_left", "_law_right"] sp_law_gap := by
  refine T.f_law_gap.ok sc_law_gap (fun vs H Q E h => ?_) (fun cdv A outer s H vs Q E hr h => ?_)
  · obtain ⟨p, ps, a, c, rfl, _⟩ := h
    rfl
  · obtain ⟨p, ps, a, c, rfl, ⟨rs, hp, hlen, hrs⟩, hG, ha, hc, k⟩ := h
    have few := hG.few
    refine ⟨_,       (pss_one (ps_ret (pe_ix ix_list (pe_op op_cat (pe_lc (own := [("_law_one", 3), ("_law_other", 4), ("_law_gap_here", 5)])  rfl sc_law_gap.nd (pi_tup (pv 0)) (blkOk_by (own := [("_law_one", 3), ("_law_other", 4), ("_law_gap_here", 5)]) (N := N_law_gap) (sc := defScope s_law_gap) (by decide +kernel)) (fun _ _ _ _ _ => (k_pg_tup K (n := 3) (pgs_cons (pg_name (i := 3) sc_law_gap.nd rfl (.inl rfl)) (pgs_cons (pg_name (i := 4) sc_law_gap.nd rfl (.inl rfl)) (pgs_cons (pg_name (i := 5) sc_law_gap.nd rfl (.inl rfl)) pgs_nil))))) (fun _ _ _ _ _ => (pts_one (pt_cmpR (k_eqD K hr.units) (pe_tup (pa_cons (pv 3) (pa_cons (pv 4) pa_nil))) (pe_tup (pa_cons (pv 1) (pa_cons (pv 2) pa_nil))) (nomark _)))) (fun _ _ _ _ _ => (pv 5))) (pe_lst (pa_cons pe_int pa_nil))) pe_int (fun _ _ => rfl)))), ?_⟩
    refine ⟨.ref p, rfl, p, rfl, ⟨_, SqT.of hp⟩, fun D hD => ?_⟩
    refine lc_it walk_tup (fun i H' => Ex H H' ∧ H' D = some (.lst (iV (gs (ps.take i) a c)))) ⟨ex_new hD, upd_same⟩ (fun i H' _ h => SqT.of (h.1 _ _ hp)) ?_ ?_
    · rintro i x H1 H2 hi ⟨e, hL⟩ ⟨rfl, hx⟩
      rw [List.length_map] at hi
      rw [row_at hi] at hx
      cases hx
      have g1 : rs[i]? = some rs[i] := List.getElem?_eq_getElem hi
      have g2 : ps[i]? = some ps[i] := List.getElem?_eq_getElem (by omega)
      have hm : ps[i] ∈ ps := List.getElem_mem _
      have hr0 := e _ _ (hrs i _ _ g1 g2)
      refine ⟨rs[i], prV ps[i], rfl, SqT.of hr0, rfl, _, _, rfl, _, _, rfl, _, _, rfl, rfl, rfl, ?_⟩
      refine ⟨_, rfl, _, rfl, (by show 2 ≤ sizeLine; decide), fun t1 n1 => ?_⟩
      refine ⟨_, rfl, _, rfl, (by show 2 ≤ sizeLine; decide), fun t2 n2 => ?_⟩
      have e1 : Ex H2 (upd H2 t1 (.tup [.str (sx [ps[i].1]), .str (sx [ps[i].2.1])])) := ex_new n1
      have e2 : Ex (upd H2 t1 (.tup [.str (sx [ps[i].1]), .str (sx [ps[i].2.1])])) (upd (upd H2 t1 (.tup [.str (sx [ps[i].1]), .str (sx [ps[i].2.1])])) t2 (.tup [.str (sx [a]), .str (sx [c])])) := ex_new n2
      have s1 := (hG.small _ hm)
      refine ⟨.tuple (dStr [[ps[i].1], [ps[i].2.1]]), .tuple (dStr [[a], [c]]), .tup (SqT.of (e2 _ _ upd_same)) (dStr_all [[ps[i].1], [ps[i].2.1]]), .tup (SqT.of upd_same) (dStr_all [[a], [c]]), dTup_shaped ?_, dTup_shaped ?_, _, rfl, ?_⟩
      · intro w hw d hd
        simp only [List.mem_cons, List.not_mem_nil, or_false] at hw
        rcases hw with rfl | rfl
        · rw [List.mem_singleton.mp hd]
          exact s1.1
        · rw [List.mem_singleton.mp hd]
          exact s1.2
      · intro w hw d hd
        simp only [List.mem_cons, List.not_mem_nil, or_false] at hw
        rcases hw with rfl | rfl
        · rw [List.mem_singleton.mp hd]
          exact ha
        · rw [List.mem_singleton.mp hd]
          exact hc
      rw [pair_eqv]
      have hLe := e2 _ _ (e1 _ _ hL)
      have ee := e.trans (e1.trans e2)
      refine ite2 (fun hq => ?_) (fun hq => ?_)
      · refine ⟨_, rfl, _, hLe, ?_, ee.mut hD, ?_⟩
        · rw [iV_len]
          have := gs_len (ps.take i) a c
          rw [List.length_take] at this
          exact small1000 (by omega)
        · rw [upd_same, take_snoc g2, gs_yes hq]
          unfold iV
          rw [List.map_append]
          rfl
      · refine ⟨ee, ?_⟩
        rw [hLe, take_snoc g2, gs_no hq]
    · rintro H1 ⟨e, hL⟩
      rw [List.length_map, List.take_of_length_le (by omega)] at hL
      refine ⟨by decide, fun o no => ?_⟩
      have nDo : D ≠ o := ne_of_none hL no
      have hlf := gs_len ps a c
      refine ⟨D, o, _, _, rfl, rfl, by rw [upd_ne nDo]; exact hL, upd_same, ?_, fun l hl => ?_⟩
      · rw [iV_len]
        exact sz1000 (by simp only [List.length_singleton]; omega)
      · have ec : iV (gs ps a c) ++ [V.int 0] = iV (gs ps a c ++ [0]) := by
          unfold iV
          rw [List.map_append]
          rfl
        refine ⟨l, _, 0, .int (gap ps a c), rfl, rfl, SqL.of upd_same, ?_, k _ ((e.trans (ex_new no)).trans (ex_new hl))⟩
        rw [ec, ← fold_gap]
        exact atI_nat (j := 0) (iV_at (by simp))
def sp_law_wide : Sp := fun vs H Q _ => ∃ f p b ls ps t, vs = [.ref f, .ref p, .str (sx t)] ∧ FaceAt H f b ls ∧ FOk b ls ∧ PairsAt H p ps ∧ GOk ps ∧ (∀ c ∈ t, c ≠ 32 ∧ okc ls c = true ∧ c < 1000) ∧ t.length ≤ 50 ∧ RV1 (.int (Wd b ls ps t)) H Q
theorem ok_law_wide (T : Tx K mg) : FnOk P w K mg base CX0 2 T.a_law_wide T.d_law_wide ["_law_face_here", "_law_pairs_here", "_law_text"] sp_law_wide := by
  have G_law_gap : FnOk P w K mg base CX0 1 T.a_law_gap T.d_law_gap ["_law_pairs_here", "_law_left", "_law_right"] sp_law_gap := ok_law_gap T
  refine T.f_law_wide.ok sc_law_wide (fun vs H Q E h => ?_) (fun cdv A outer s H vs Q E hr h => ?_)
  · obtain ⟨f, p, b, ls, ps, t, rfl, _⟩ := h
    rfl
  · obtain ⟨f, p, b, ls, ps, t, rfl, hF, hO, hP, hG, ht, hz, k⟩ := h
    obtain ⟨q, hf, rs, hq, hlen, hrs⟩ := id hF
    have n2 := hO.n2
    refine ⟨_,       (pss_cons (ps_set (i := 3) sc_law_wide.nd rfl (.inr rfl) (pe_callTy (call_dictP rfl) (by rfl) T.z_dict (by decide +kernel) (pa_cons (pe_op op_cat (pe_callTy call_list_of (by rfl) T.z_list (by decide +kernel) (pa_cons (pe_ix ix_tup (pv 0) pe_int (fun _ _ => rfl)) pa_nil)) (pe_lst (pa_cons (pe_tup (pa_cons pe_str (pa_cons (pe_ix ix_tup (pv 0) pe_int (fun _ _ => rfl)) pa_nil))) pa_nil))) pa_nil)))
      (pss_cons (ps_set (i := 4) sc_law_wide.nd rfl (.inl rfl) (pe_callB (cr_sum rfl) (by rfl) T.z_sum (by decide +kernel) (pa_cons (pe_lc (own := [("_law_sign", 5)]) (g := gName 5) (tt := tYes) rfl sc_law_wide.nd (pi_str (pv 2)) (blkOk_by (own := [("_law_sign", 5)]) (N := N_law_wide) (sc := defScope s_law_wide) (by decide +kernel)) (fun _ _ _ _ _ => (pg_name (i := 5) sc_law_wide.nd rfl (.inl rfl))) (fun _ _ _ _ _ => pts_nil) (fun _ _ _ _ _ => (pe_dget (hu_of hr) (pv 3) (pv 5) (fun _ _ => rfl)))) pa_nil)))
      (pss_one (ps_ret (pe_op op_add (pv 4) (pe_callB (cr_sum rfl) (by rfl) T.z_sum (by decide +kernel) (pa_cons (pe_lc (own := [("_law_one", 6), ("_law_other", 7)]) (tt := tYes) rfl sc_law_wide.nd (pi_zipS (by rfl) T.z_zip (pa_cons (pv 2) (pa_cons (pe_slice sl_str (pv 2) (po_some pe_int) po_none) pa_nil))) (blkOk_by (own := [("_law_one", 6), ("_law_other", 7)]) (N := N_law_wide) (sc := defScope s_law_wide) (by decide +kernel)) (fun _ _ _ _ _ => (k_pg_tup K (n := 2) (pgs_cons (pg_name (i := 6) sc_law_wide.nd rfl (.inl rfl)) (pgs_cons (pg_name (i := 7) sc_law_wide.nd rfl (.inl rfl)) pgs_nil)))) (fun _ _ _ _ _ => pts_nil) (fun _ _ _ _ _ => (pe_call G_law_gap (hr.mono (by decide)) (by rfl) T.g_law_gap T.f_law_gap.kp T.b_law_gap .nil pass0 (pa_cons (pv 1) (pa_cons (pv 6) (pa_cons (pv 7) pa_nil)))))) pa_nil))))))), ?_⟩
    -- dict(list(face[1]) + [(" ", face[0])])
    refine ⟨.ref f, rfl, f, _, 1, .ref q, rfl, rfl, SqT.of hf, rfl, q, _, rfl, .inr (SqT.of hq), fun l1 m1 => ?_⟩
    have e1 : Ex H (upd H l1 (.lst (rs.map V.ref))) := ex_new m1
    generalize hH1 : upd H l1 (.lst (rs.map V.ref)) = H1 at e1
    have g1 : H1 l1 = some (.lst (rs.map V.ref)) := by rw [← hH1]; exact upd_same
    refine ⟨.ref f, rfl, f, _, 0, .int b, rfl, rfl, SqT.of (e1 _ _ hf), rfl, (by show 2 ≤ sizeLine; decide), fun t1 m2 => ?_⟩
    have e2 : Ex H1 (upd H1 t1 (.tup [.str (Str.ofString " "), .int b])) := ex_new m2
    generalize hH2 : upd H1 t1 (.tup [.str (Str.ofString " "), .int b]) = H2 at e2
    have g2 : H2 t1 = some (.tup [.str (Str.ofString " "), .int b]) := by rw [← hH2]; exact upd_same
    refine ⟨(by show 1 ≤ sizeLine; decide), fun l2 m3 => ?_⟩
    have e3 : Ex H2 (upd H2 l2 (.lst [.ref t1])) := ex_new m3
    generalize hH3 : upd H2 l2 (.lst [.ref t1]) = H3 at e3
    have g3 : H3 l2 = some (.lst [.ref t1]) := by rw [← hH3]; exact upd_same
    refine ⟨l1, l2, _, _, rfl, rfl, e3 _ _ (e2 _ _ g1), g3, ?_, fun l3 m4 => ?_⟩
    · rw [List.length_map]
      exact sz1000 (by simp only [List.length_singleton]; omega)
    have e4 : Ex H3 (upd H3 l3 (.lst (rs.map V.ref ++ [.ref t1]))) := ex_new m4
    generalize hH4 : upd H3 l3 (.lst (rs.map V.ref ++ [.ref t1])) = H4 at e4
    have g4 : H4 l3 = some (.lst (rs.map V.ref ++ [.ref t1])) := by rw [← hH4]; exact upd_same
    have e04 : Ex H H4 := ((e1.trans e2).trans e3).trans e4
    refine ⟨l3, rs ++ [t1], brd b ls, rfl, ?_, ?_, fun d m5 => ?_⟩
    · rw [List.map_append]
      exact SqL.of g4
    · refine paired_get ?_ fun i r kv h1 h2 => ?_
      · unfold brd
        simp [hlen]
      · by_cases hlt : i < rs.length
        · rw [List.getElem?_append_left hlt] at h1
          unfold brd at h2
          rw [List.getElem?_append_left (by rw [List.length_map]; omega), List.getElem?_map, List.getElem?_eq_getElem (by omega)] at h2
          cases h2
          exact SqT.of (e04 _ _ (hrs i _ _ h1 (List.getElem?_eq_getElem (by omega))))
        · have hb := (List.getElem?_eq_some_iff.mp h1).1
          rw [List.length_append, List.length_singleton] at hb
          have ei : i = rs.length := by omega
          subst ei
          rw [List.getElem?_append_right (Nat.le_refl _), Nat.sub_self] at h1
          unfold brd at h2
          rw [List.getElem?_append_right (by rw [List.length_map]; omega), List.length_map, hlen, Nat.sub_self] at h2
          cases h1
          cases h2
          exact SqT.of (e4 _ _ (e3 _ _ g2))
    have e5 : Ex H4 (upd H4 d (.dK (mergeK [] (brd b ls)))) := ex_new m5
    generalize hH5 : upd H4 d (.dK (mergeK [] (brd b ls))) = H5 at e5
    have g5 : H5 d = some (.dK (mergeK [] (brd b ls))) := by rw [← hH5]; exact upd_same
    have e05 : Ex H H5 := e04.trans e5
    -- the sum of the widths
    refine ⟨.str (sx t), rfl, sx t, rfl, fun D hD => ?_⟩
    refine lc_it walk_str (fun i H' => Ex H5 H' ∧ H' D = some (.lst (iV ((t.take i).map (swd b ls))))) ⟨ex_new hD, upd_same⟩ (fun _ _ _ _ => trivial) ?_ ?_
    · rintro i x H6 H7 hi ⟨e, hL⟩ ⟨rfl, c, hc, rfl⟩
      rw [sx_size] at hi
      have hc' : t[i]? = some c := by simpa [sx] using hc
      have hm : c ∈ t := List.mem_of_getElem? hc'
      obtain ⟨h32, hok, _⟩ := ht c hm
      refine ⟨rfl, .ref d, rfl, _, rfl, d, .int (swd b ls c), rfl, .inl ⟨_, Sum.inr (sx [c]), .inl (e _ _ g5), rfl, (brd_at hO hok h32).symm⟩, _, hL, ?_, e.mut hD, ?_⟩
      · rw [iV_len, List.length_map, List.length_take]
        exact small1000 (by omega)
      · rw [upd_same, take_snoc hc', List.map_append]
        unfold iV
        rw [List.map_append]
        rfl
    · rintro H6 ⟨e6, hL⟩
      rw [sx_size, List.take_length] at hL
      refine ⟨D, _, rfl, SqL.of hL, ?_⟩
      have e06 : Ex H H6 := e05.trans e6
      -- the sum of the gaps
      refine ⟨_, rfl, .str (sx t), rfl, .str (sx t), rfl, 1, rfl, sx t, rfl, by rw [sx_len]; exact sz1000 (by omega), sx t, sx t.tail, ?_, fun D2 hD2 => ?_⟩
      · rw [cut_tail]
      rw [sx_size, sx_size, List.length_tail]
      refine lc_it walk_itp (fun i H' => Ex H6 H' ∧ H' D2 = some (.lst (iV ((List.range i).map fun j => btw ps (t.getD j 0) (t.getD (j + 1) 0))))) ⟨ex_new hD2, upd_same⟩ (fun _ _ _ _ => trivial) ?_ ?_
      · rintro i x H7 H8 hi ⟨e, hL2⟩ ⟨Tp, rfl, nT, rfl⟩
        have hi1 : i < t.length := by omega
        have hi2 : i + 1 < t.length := by omega
        have nDT : D2 ≠ Tp := ne_of_none hL2 nT
        rw [sgn_sx, sgn_sx]
        have et : t.tail.getD i 0 = t.getD (i + 1) 0 := by
          cases t with
          | nil => simp at hi1
          | cons c r => rfl
        rw [et]
        obtain ⟨c1, c2, c3⟩ := ht _ (getD_mem hi1)
        obtain ⟨d1, d2, d3⟩ := ht _ (getD_mem hi2)
        have eT : Ex H6 (upd H7 Tp (.tup [.str (sx [t.getD i 0]), .str (sx [t.getD (i + 1) 0])])) := e.trans (ex_new nT)
        refine ⟨Tp, _, rfl, SqT.of upd_same, rfl, _, _, rfl, _, _, rfl, rfl, rfl, ?_⟩
        refine ⟨_, rfl, _, rfl, _, rfl, p, ps, _, _, rfl, hP.mono (e06.trans eT), hG, c3, d3, fun H9 e9 => ?_⟩
        have hL9 : H9 D2 = some (.lst (iV ((List.range i).map fun j => btw ps (t.getD j 0) (t.getD (j + 1) 0)))) := e9 _ _ (by rw [upd_ne nDT]; exact hL2)
        refine ⟨_, hL9, ?_, (eT.trans e9).mut hD2, ?_⟩
        · rw [iV_len, List.length_map, List.length_range]
          exact small1000 (by omega)
        · rw [upd_same, List.range_succ, List.map_append]
          unfold iV
          rw [List.map_append]
          have eb : btw ps (t.getD i 0) (t.getD (i + 1) 0) = gap ps (t.getD i 0) (t.getD (i + 1) 0) := if_neg fun z => z.elim c1 d1
          show _ = some (HO.lst (_ ++ [V.int (btw ps (t.getD i 0) (t.getD (i + 1) 0))]))
          rw [eb]
      · rintro H7 ⟨e, hL2⟩
        refine ⟨D2, _, rfl, SqL.of hL2, _, _, rfl, rfl, ?_⟩
        have ew : Wd b ls ps t = (t.map (swd b ls)).sum + ((List.range (min t.length (t.length - 1))).map fun j => btw ps (t.getD j 0) (t.getD (j + 1) 0)).sum := by
          rw [show Wd b ls ps t = _ from W_sums _ _ t, zip_range (btw ps) t]
        rw [ew] at k
        exact k _ (e06.trans e)
end
end K96
namespace K96
open PySem PySem.Spec PyProof.Rows L2 Evl TL
theorem sIx_m1 {n d : Nat} (h : 0 < n) : HT.sIx n d (some (-1)) = n - 1 := by
  have q := HT.clip_eq (-1) n d
  rw [if_pos (by decide)] at q
  omega
theorem cut_last {xs : List V} (h : 0 < xs.length) : cutV xs none (some (-1)) = xs.dropLast := by
  unfold cutV
  rw [sIx_m1 h, HT.sIx_none, List.drop_zero, List.dropLast_eq_take]
  rfl
/-! ### a heap without one object: what others know while that one turns -/
def rm (H : Hp) (b : Addr) : Hp := fun a => if a = b then none else H a
theorem rm_same {H : Hp} {b : Addr} : rm H b b = none := if_pos rfl
theorem rm_ne {H : Hp} {a b : Addr} (h : a ≠ b) : rm H b a = H a := if_neg h
theorem rm_ex {H : Hp} {b : Addr} : Ex (rm H b) H := fun a o e => by
  by_cases h : a = b
  · rw [h, rm_same] at e
    cases e
  · rw [rm_ne h] at e
    exact e
theorem ex_rm {G H : Hp} {b : Addr} (e : Ex G H) (h : G b = none) : Ex G (rm H b) := fun a o q => by
  rw [rm_ne (ne_of_none q h)]
  exact e a o q
def BoxAt (H : Hp) (b : Addr) : Prop := ∃ x y : Int, H b = some (.lst [.int x, .int y])
theorem BoxAt.mono {H H' : Hp} {b : Addr} (e : Ex H H') (h : BoxAt H b) : BoxAt H' b := by
  obtain ⟨x, y, h⟩ := h
  exact ⟨x, y, e _ _ h⟩
section
variable {P : Program} {w : World} {K : PySem.W.Frag} {mg : Str → Option Value} {base : Heap}
def sp_law_cost : Sp := fun vs H Q _ => ∃ f p l b ls ps L M, vs = [.ref f, .ref p, .ref l, .int M] ∧ FaceAt H f b ls ∧ PairsAt H p ps ∧ H l = some (.tup (wV L)) ∧ (∀ t ∈ L, tok ls t ∧ 0 ≤ Wd b ls ps t ∧ Wd b ls ps t ≤ M) ∧ M ≤ 999 ∧ L.length ≤ 100 ∧ RV1 (.int ((L.dropLast.map fun t => (M - Wd b ls ps t) * (M - Wd b ls ps t)).sum)) H Q
theorem ok_law_cost (T : Tx K mg) : FnOk P w K mg base CX0 6 T.a_law_cost T.d_law_cost ["_law_face_here", "_law_pairs_here", "_law_lines", "_law_number"] sp_law_cost := by
  have G_wide : FnOk P w K mg base CX0 5 T.a_wide T.d_wide ["face", "pairs", "text"] sp_wide := ok_wide T
  refine T.f_law_cost.ok sc_law_cost (fun vs H Q E h => ?_) (fun cdv A outer s H vs Q E hr h => ?_)
  · obtain ⟨f, p, l, b, ls, ps, L, M, rfl, _⟩ := h
    rfl
  · obtain ⟨f, p, l, b, ls, ps, L, M, rfl, hF, hP, hl, hL, m2, few, k⟩ := h
    refine ⟨_,       (pss_one (ps_ret (pe_callB (cr_sum rfl) (by rfl) T.z_sum (by decide +kernel) (pa_cons (pe_lc (own := [("_law_line", 4)]) (g := gName 4) (tt := tYes) rfl sc_law_cost.nd (pi_tup (pe_slice sl_tupA (pv 2) po_none (po_some (pe_un un_neg pe_int)))) (blkOk_by (own := [("_law_line", 4)]) (N := N_law_cost) (sc := defScope s_law_cost) (by decide +kernel)) (fun _ _ _ _ _ => (pg_name (i := 4) sc_law_cost.nd rfl (.inl rfl))) (fun _ _ _ _ _ => pts_nil) (fun _ _ _ _ _ => (pe_op op_mul (pe_op op_sub (pv 3) (pe_call G_wide (hr.mono (by decide)) (by rfl) T.g_wide T.f_wide.kp T.b_wide .nil pass0 (pa_cons (pv 0) (pa_cons (pv 1) (pa_cons (pv 4) pa_nil))))) (pe_op op_sub (pv 3) (pe_call G_wide (hr.mono (by decide)) (by rfl) T.g_wide T.f_wide.kp T.b_wide .nil pass0 (pa_cons (pv 0) (pa_cons (pv 1) (pa_cons (pv 4) pa_nil)))))))) pa_nil)))), ?_⟩
    have hlen : (wV L).length = L.length := wV_len L
    refine ⟨.ref l, rfl, 1, rfl, -1, rfl, l, wV L, rfl, SqT.of hl, fun hw => ?_, fun hw q hq => ?_⟩
    · have e0 : L = [] := by
        by_cases z : 0 < (wV L).length
        · rw [sIx_m1 z] at hw
          omega
        · rw [hlen] at z
          exact List.eq_nil_of_length_eq_zero (by omega)
      subst e0
      refine ⟨l, rfl, ⟨_, SqT.of hl⟩, fun D hD => ?_⟩
      refine lc_it (walk_tup (xs := wV [])) (fun i H' => Ex H H' ∧ H' D = some (.lst (iV []))) ⟨ex_new hD, upd_same⟩ (fun i H' _ h => SqT.of (h.1 _ _ hl)) ?_ ?_
      · rintro i x H1 H2 hi
        exact absurd hi (Nat.not_lt_zero _)
      · rintro H1 ⟨e, hD1⟩
        exact ⟨D, _, rfl, SqL.of hD1, k _ e⟩
    · have z : 0 < (wV L).length := by
        by_cases z : 0 < (wV L).length
        · exact z
        · refine absurd ?_ hw
          have : (wV L).length = 0 := by omega
          rw [this]
          decide
      have e1 : Ex H (upd H q (.tup (cutV (wV L) none (some (-1))))) := ex_new hq
      have hq1 : (upd H q (.tup (cutV (wV L) none (some (-1))))) q = some (.tup (wV L.dropLast)) := by
        rw [upd_same, cut_last z]
        unfold wV
        rw [List.map_dropLast]
      generalize upd H q (.tup (cutV (wV L) none (some (-1)))) = H1 at e1 hq1 ⊢
      refine ⟨q, rfl, ⟨_, SqT.of hq1⟩, fun D hD => ?_⟩
      refine lc_it walk_tup (fun i H' => Ex H1 H' ∧ H' D = some (.lst (iV ((L.dropLast.take i).map fun t => (M - Wd b ls ps t) * (M - Wd b ls ps t))))) ⟨ex_new hD, upd_same⟩ (fun i H' _ h => SqT.of (h.1 _ _ hq1)) ?_ ?_
      · rintro i x H2 H3 hi ⟨e, hL2⟩ ⟨rfl, hx⟩
        rw [wV_len] at hi
        have g := List.getElem?_eq_getElem hi
        rw [wV_at g] at hx
        cases hx
        obtain ⟨t1, t2, t3⟩ := hL _ (List.dropLast_subset L (List.getElem_mem hi))
        have ee := e1.trans e
        refine ⟨rfl, _, rfl, _, rfl, _, rfl, _, rfl, f, p, b, ls, ps, L.dropLast[i], rfl, hF.mono ee, hP.mono ee, t1, fun H4 e4 => ⟨_, _, rfl, rfl, ?_⟩⟩
        have e5 := ee.trans e4
        refine ⟨_, rfl, _, rfl, _, rfl, _, rfl, f, p, b, ls, ps, L.dropLast[i], rfl, hF.mono e5, hP.mono e5, t1, fun H5 e6 => ⟨_, _, rfl, rfl, _, _, rfl, rfl, .inl ⟨by omega, by omega⟩, ?_⟩⟩
        refine ⟨_, e6 _ _ (e4 _ _ hL2), ?_, ((e.trans e4).trans e6).mut hD, ?_⟩
        · rw [iV_len, List.length_map, List.length_take, List.length_dropLast]
          exact small1000 (by omega)
        · rw [upd_same, take_snoc g, List.map_append]
          unfold iV
          rw [List.map_append]
          rfl
      · rintro H2 ⟨e, hL2⟩
        rw [wV_len, List.take_length] at hL2
        exact ⟨D, _, rfl, SqL.of hL2, k _ (e1.trans e)⟩
def sp_law_box (K : PySem.W.Frag) : Sp := fun vs H Q _ => ∃ (a : Addr) (ns : List Int) (j : Nat), vs = [.ref a, .int (j : Int)] ∧ SqL K H a (ns.map V.int) ∧ j ≤ 100 ∧ ∀ x H', H x = none → Ex H H' → BoxAt H' x → Q (.ref x) H'
theorem ok_law_box (T : Tx K mg) : FnOk P w K mg base CX0 1 T.a_law_box T.d_law_box ["_law_script", "_law_k"] (sp_law_box K) := by
  refine T.f_law_box.ok sc_law_box (fun vs H Q E h => ?_) (fun cdv A outer s H vs Q E hr h => ?_)
  · obtain ⟨a, ns, j, rfl, _⟩ := h
    rfl
  · obtain ⟨a, ns, j, rfl, ha, hj, k⟩ := h
    refine ⟨_,       (pss_cons (ps_set (i := 2) sc_law_box.nd rfl (.inl rfl) (pe_op op_add (pe_op op_mul pe_int (pv 1)) pe_int))
      (pss_cons (ps_if (pt_cmpR op_lt (pv 1) (pe_callB call_len_seq (by rfl) T.z_len (by decide +kernel) (pa_cons (pv 0) pa_nil)) (nomark _)) 
        (pss_one (ps_set (i := 2) sc_law_box.nd rfl (.inl rfl) (pe_ix ix_list (pv 0) (pv 1) (fun _ _ => rfl)))) pss_nil)
      (pss_cons (ps_if (pt_cmpR op_eq (pe_op op_mod (pv 2) pe_int) pe_int (nomark _)) 
        (pss_one (ps_ret (pe_lst (pa_cons (pe_op op_fdiv (pe_callB call_abs (by rfl) T.z_abs (by decide +kernel) (pa_cons (pv 2) pa_nil)) pe_int) (pa_cons (pe_op op_add (pe_op op_add (pe_op op_mod (pv 2) pe_int) (pe_op op_mul pe_int (pv 1))) pe_int) pa_nil))))) pss_nil)
      (pss_one (ps_ret (pe_lst (pa_cons pe_int (pa_cons (pe_op op_add (pe_op op_add (pe_op op_mod (pv 2) pe_int) (pe_op op_mul pe_int (pv 1))) pe_int) pa_nil)))))))), ?_⟩
    have fin : ∀ (x y : Int) (p : Addr), H p = none → Q (.ref p) (upd H p (.lst [.int x, .int y])) := fun x y p hp => k p _ hp (ex_new hp) ⟨x, y, upd_same⟩
    refine ⟨_, rfl, _, _, rfl, rfl, .inl ⟨by decide, by decide⟩, _, _, rfl, rfl, ?_⟩
    refine ⟨_, rfl, .ref a, rfl, a, _, rfl, .inl ha, _, _, rfl, rfl, _, rfl, ite2 (fun h => ?_) (fun h => ?_)⟩
    · have hlt : j < ns.length := by
        have q := of_decide_eq_true h
        rw [List.length_map] at q
        omega
      have g : (ns.map V.int)[j]? = some (.int ns[j]) := by
        rw [List.getElem?_map, List.getElem?_eq_getElem hlt]
        rfl
      refine ⟨.ref a, rfl, .int (j : Int), rfl, a, _, _, _, rfl, rfl, ha, atI_nat g, ?_⟩
      refine ⟨_, rfl, _, 2, rfl, rfl, (by show (0 : Int) < 2; decide), rfl, _, rfl, ite2 (fun h2 => ?_) (fun h2 => ?_)⟩
      · exact ⟨_, rfl, _, rfl, _, 2, rfl, rfl, ⟨by decide, by decide⟩, _, rfl, _, 1000003, rfl, rfl, (by show (0 : Int) < 1000003; decide), _, rfl, _, _, rfl, rfl, .inl ⟨by decide, by decide⟩, _, _, rfl, rfl, _, 1, rfl, rfl, (by show 2 ≤ sizeLine; decide), fun p hp => fin _ _ p hp⟩
      · exact ⟨_, rfl, _, 2147483563, rfl, rfl, (by show (0 : Int) < 2147483563; decide), _, rfl, _, _, rfl, rfl, .inl ⟨by decide, by decide⟩, _, _, rfl, rfl, _, 1, rfl, rfl, (by show 2 ≤ sizeLine; decide), fun p hp => fin _ _ p hp⟩
    · refine ⟨_, rfl, _, 2, rfl, rfl, (by show (0 : Int) < 2; decide), rfl, _, rfl, ite2 (fun h2 => ?_) (fun h2 => ?_)⟩
      · exact ⟨_, rfl, _, rfl, _, 2, rfl, rfl, ⟨by decide, by decide⟩, _, rfl, _, 1000003, rfl, rfl, (by show (0 : Int) < 1000003; decide), _, rfl, _, _, rfl, rfl, .inl ⟨by decide, by decide⟩, _, _, rfl, rfl, _, 1, rfl, rfl, (by show 2 ≤ sizeLine; decide), fun p hp => fin _ _ p hp⟩
      · exact ⟨_, rfl, _, 2147483563, rfl, rfl, (by show (0 : Int) < 2147483563; decide), _, rfl, _, _, rfl, rfl, .inl ⟨by decide, by decide⟩, _, _, rfl, rfl, _, 1, rfl, rfl, (by show 2 ≤ sizeLine; decide), fun p hp => fin _ _ p hp⟩
def sp_law_take : Sp := fun vs H Q _ => ∃ (x : Addr) (m : Int), vs = [.ref x, .int m] ∧ BoxAt H x ∧ 0 < m ∧ m < 1000 ∧ ∀ (d : Int) (H' : Hp), 0 ≤ d → d < m → Ex (rm H x) H' → BoxAt H' x → Q (.int d) H'
theorem ok_law_take (T : Tx K mg) : FnOk P w K mg base CX0 1 T.a_law_take T.d_law_take ["_law_box_here", "_law_many"] sp_law_take := by
  refine T.f_law_take.ok sc_law_take (fun vs H Q E h => ?_) (fun cdv A outer s H vs Q E hr h => ?_)
  · obtain ⟨x, m, rfl, _⟩ := h
    rfl
  · obtain ⟨x, m, rfl, ⟨u, v, hx⟩, m1, m2, k⟩ := h
    refine ⟨_,       (pss_cons (ps_if (pt_cmpR op_gt (pe_ix ix_list (pv 0) pe_int (fun _ _ => rfl)) pe_int (nomark _)) 
        (pss_cons (ps_asg (pe_callB call_divmod (by rfl) T.z_divmod (by decide +kernel) (pa_cons (pe_ix ix_list (pv 0) pe_int (fun _ _ => rfl)) (pa_cons (pv 1) pa_nil))) (pg_tup rfl (pgs_cons (pg_sub (pv 0) pe_int set_list) (pgs_cons (pg_name (i := 2) sc_law_take.nd rfl (.inl rfl)) pgs_nil))))
        (pss_one (ps_ret (pv 2)))) pss_nil)
      (pss_cons (ps_asg (pe_op op_mod (pe_op op_add (pe_op op_mul (pe_ix ix_list (pv 0) pe_int (fun _ _ => rfl)) pe_int) pe_int) pe_int) (pg_sub (pv 0) pe_int set_list))
      (pss_cons (ps_set (i := 3) sc_law_take.nd rfl (.inl rfl) (pe_op op_add (pe_op op_fdiv (pe_ix ix_list (pv 0) pe_int (fun _ _ => rfl)) pe_int) pe_int))
      (pss_one (ps_ret (pe_op op_mod (pe_op op_fdiv (pe_op op_mod (pe_op op_mul (pe_op op_mul (pv 3) (pv 3)) (pv 3)) pe_int) pe_int) (pv 1))))))), ?_⟩
    refine ⟨.ref x, rfl, x, _, 0, .int u, rfl, rfl, SqL.of hx, rfl, u, 0, rfl, rfl, _, rfl, ite2 (fun h => ?_) (fun h => ?_)⟩
    · refine ⟨.ref x, rfl, x, _, 0, .int u, rfl, rfl, SqL.of hx, rfl, _, rfl, _, _, rfl, ⟨m1, by omega⟩, fun t nt => ?_⟩
      have nxt : x ≠ t := ne_of_none hx nt
      have hx2 : (upd H t (.tup [.int (u / m), .int (u % m)])) x = some (.lst [.int u, .int v]) := by rw [upd_ne nxt]; exact hx
      refine ⟨t, _, rfl, SqT.of upd_same, rfl, _, _, rfl, .ref x, rfl, x, _, 0, 0, rfl, rfl, hx2, rfl, _, _, rfl, rfl, ?_⟩
      refine ⟨_, rfl, k _ _ (Int.emod_nonneg _ (by omega)) (Int.emod_lt_of_pos _ m1) ?_ ⟨u / m, v, upd_same⟩⟩
      exact Ex.mut (fun a o e => ex_new nt _ _ (rm_ex _ _ e)) rm_same
    · refine ⟨.ref x, rfl, x, _, 1, .int v, rfl, rfl, SqL.of hx, rfl, v, 48271, rfl, rfl, .inr ⟨by decide, by decide⟩, _, 11, rfl, rfl, _, 2147483647, rfl, rfl, (by show (0 : Int) < 2147483647; decide), .ref x, rfl, x, _, 1, 1, rfl, rfl, hx, rfl, ?_⟩
      obtain ⟨y, hy⟩ : ∃ y, y = (v * 48271 + 11) % 2147483647 := ⟨_, rfl⟩
      have y0 : 0 ≤ y := by rw [hy]; exact Int.emod_nonneg _ (by decide)
      have y1 : y < 2147483647 := by rw [hy]; exact Int.emod_lt_of_pos _ (by decide)
      generalize hH : upd H x _ = H2
      have hx3 : H2 x = some (.lst [.int u, .int y]) := by
        rw [← hH, upd_same, hy]
        rfl
      have e2 : Ex (rm H x) H2 := by
        rw [← hH]
        exact Ex.mut rm_ex rm_same
      refine ⟨.ref x, rfl, x, _, 1, .int y, rfl, rfl, SqL.of hx3, rfl, y, 1009, rfl, rfl, ⟨by decide, by decide⟩, _, 1, rfl, rfl, ?_⟩
      obtain ⟨g, hg⟩ : ∃ g, g = y / 1009 + 1 := ⟨_, rfl⟩
      have g0 : 0 < g := by omega
      have g1 : g < 2200000 := by omega
      have sg : ([some (V.ref x), some (.int m), none, some (.int (y / 1009 + 1))] : L2.St) = [some (V.ref x), some (.int m), none, some (.int g)] := by rw [hg]
      have go : ∀ D : Ends, (∀ d H', 0 ≤ d → d < m → Ex (rm H x) H' → BoxAt H' x → D.rt (.int d) H') → (tRet (tOp (rI (fun _ j => 0 < j) fun i j => .int (i % j)) (tOp (rI CDiv fun i j => .int (i / j)) (tOp (rI (fun _ j => 0 < j) fun i j => .int (i % j)) (tOp (rI CMul fun i j => .int (i * j)) (tOp (rI CMul fun i j => .int (i * j)) (tVar 3) (tVar 3)) (tVar 3)) (tC (.int 2147483629))) (tC (.int 61))) (tVar 1))) D [some (V.ref x), some (.int m), none, some (.int (y / 1009 + 1))] H2 := fun D hD => by
        rw [sg]
        have gg : g * g < 2200000 * 2200000 := by
          have h1 : g * g ≤ 2200000 * g := Int.mul_le_mul_of_nonneg_right (by omega) (by omega)
          omega
        have gg0 : 0 ≤ g * g := Int.mul_nonneg (by omega) (by omega)
        refine ⟨_, rfl, _, rfl, g, g, rfl, rfl, .inl ⟨by omega, by omega⟩, _, rfl, _, g, rfl, rfl, .inl ⟨by omega, by omega⟩, _, 2147483629, rfl, rfl, (by show (0 : Int) < 2147483629; decide), _, 61, rfl, rfl, ⟨by decide, by decide⟩, _, rfl, _, m, rfl, rfl, m1, ?_⟩
        exact hD _ _ (Int.emod_nonneg _ (by omega)) (Int.emod_lt_of_pos _ m1) e2 ⟨u, y, hx3⟩
      exact go _ fun d H' d0 d1 e b => k d H' d0 d1 e b
end
end K96
namespace K96
open PySem PySem.Spec PyProof.Rows L2 Evl TL
def cV (cs : List Nat) : List V := cs.map fun c => V.str (sx [c])
theorem cV_len (cs : List Nat) : (cV cs).length = cs.length := by simp [cV]
def alph : List Nat := (List.range 26).map fun k => 97 + k
theorem alph_eq : rListS (Str.ofString "abcdefghijklmnopqrstuvwxyz") = cV alph := by decide +kernel
theorem alph_nd : alph.Nodup := by decide +kernel
theorem alph_in : ∀ c ∈ alph, 97 ≤ c ∧ c ≤ 122 := by decide +kernel
theorem up {H H' : Hp} {a x : Addr} {o : HO} (n : a ≠ x) (h : H a = some o) (e : Ex (rm H x) H') : H' a = some o := e a o (by rw [rm_ne n]; exact h)
theorem BoxAt.tup {H : Hp} {a x : Addr} {xs : List V} (h : BoxAt H x) (ha : H a = some (.tup xs)) : a ≠ x := by
  obtain ⟨u, v, h⟩ := h
  exact ne_of ha h (by intro z; cases z)
theorem TupsAt.rm {α : Type} {g : α → List V} {H : Hp} {a x : Addr} {ls : List α} (b : BoxAt H x) (h : TupsAt g H a ls) : TupsAt g (rm H x) a ls := by
  obtain ⟨rs, h1, h2, h3⟩ := h
  refine ⟨rs, by rw [rm_ne (b.tup h1)]; exact h1, h2, fun i r y a1 a2 => ?_⟩
  have q := h3 i r y a1 a2
  rw [rm_ne (b.tup q)]
  exact q
theorem FaceAt.rm {H : Hp} {f x : Addr} {b : Int} {ls : List (Nat × Int)} (bx : BoxAt H x) (h : FaceAt H f b ls) : FaceAt (rm H x) f b ls := by
  obtain ⟨q, h1, h2⟩ := h
  exact ⟨q, by rw [rm_ne (bx.tup h1)]; exact h1, TupsAt.rm bx h2⟩
theorem PairsAt.rm {H : Hp} {p x : Addr} {ps : List (Nat × Nat × Int)} (bx : BoxAt H x) (h : PairsAt H p ps) : PairsAt (rm H x) p ps := TupsAt.rm bx h
theorem BoxAt.upd {H : Hp} {a x : Addr} {o : HO} (h : BoxAt H x) (n : a ≠ x) : BoxAt (upd H a o) x := by
  obtain ⟨u, v, h⟩ := h
  exact ⟨u, v, by rw [upd_ne (Ne.symm n)]; exact h⟩
theorem BoxAt.ne {H : Hp} {a x : Addr} (h : BoxAt H x) (n : H a = none) : a ≠ x := by
  obtain ⟨u, v, h⟩ := h
  exact fun e => by rw [e, h] at n; cases n
theorem rm_none {H : Hp} {a x : Addr} (h : H a = none) : K96.rm H x a = none := by
  unfold K96.rm
  split
  · rfl
  · exact h
/-- the box turned, then the rest grown -/
theorem Ex.box {H H' H2 : Hp} {x : Addr} (e : Ex (K96.rm H x) H') (e2 : Ex (K96.rm H' x) H2) : Ex (K96.rm H x) H2 := (ex_rm e rm_same).trans e2
theorem idx_of {n : Nat} {d : Int} (h0 : 0 ≤ d) (h1 : d < n) : seqIndex? d n = some d.toNat := by
  have h : ixN n d = some d.toNat := by
    unfold ixN
    rw [if_pos h0, if_pos h1]
  exact (ixN_seq h).1
theorem cV_er : ∀ (cs : List Nat) (k : Nat), (cV cs).eraseIdx k = cV (cs.eraseIdx k)
  | [], _ => rfl
  | _ :: _, 0 => rfl
  | c :: cs, k + 1 => congrArg (V.str (sx [c]) :: ·) (cV_er cs k)
theorem er_perm : ∀ (cs : List Nat) (k : Nat) (h : k < cs.length), (cs[k] :: cs.eraseIdx k).Perm cs
  | [], _, h => absurd h (Nat.not_lt_zero _)
  | _ :: _, 0, _ => .refl _
  | c :: cs, k + 1, h => (List.Perm.swap _ _ _).trans ((er_perm cs k (by simpa using h)).cons c)
section
variable {P : Program} {w : World} {K : PySem.W.Frag} {mg : Str → Option Value} {base : Heap}
def sp_law_face : Sp := fun vs H Q _ => ∃ x, vs = [.ref x, .int 1, .int 6] ∧ BoxAt H x ∧ ∀ f H' b ls, Ex (rm H x) H' → BoxAt H' x → FaceAt (rm H' x) f b ls → FOk b ls → Q (.ref f) H'
theorem ok_law_face (T : Tx K mg) : FnOk P w K mg base CX0 2 T.a_law_face T.d_law_face ["_law_box_here", "_law_least", "_law_most"] sp_law_face := by
  have G_law_take : FnOk P w K mg base CX0 1 T.a_law_take T.d_law_take ["_law_box_here", "_law_many"] sp_law_take := ok_law_take T
  refine T.f_law_face.ok sc_law_face (fun vs H Q E h => ?_) (fun cdv A outer s H vs Q E hr h => ?_)
  · obtain ⟨x, rfl, _⟩ := h
    rfl
  · obtain ⟨x, rfl, hB, k⟩ := h
    refine ⟨_,       (pss_cons (ps_set (i := 3) sc_law_face.nd rfl (.inr rfl) (pe_callTy (list_of_text rfl) (by rfl) T.z_list (by decide +kernel) (pa_cons pe_str pa_nil)))
      (pss_cons (ps_set (i := 4) sc_law_face.nd rfl (.inl rfl) (pe_op op_add (pv 1) (pe_call G_law_take (hr.mono (by decide)) (by rfl) T.g_law_take T.f_law_take.kp T.b_law_take .nil pass0 (pa_cons (pv 0) (pa_cons (pe_op op_add (pe_op op_sub (pv 2) (pv 1)) pe_int) pa_nil)))))
      (pss_cons (ps_setLc (i := 5) (own := [("_law_turn", 6)]) (g := gName 6) (tt := tYes) rfl sc_law_face.nd rfl rfl (sw_true rfl rfl rfl (by decide +kernel)) (pi_range1 (by rfl) T.z_range (pa_cons (pv 4) pa_nil)) (blkOk_by (own := [("_law_turn", 6)]) (N := N_law_face) (sc := defScope s_law_face) (by decide +kernel)) (fun _ _ _ _ _ => (pg_name (i := 6) sc_law_face.nd rfl (.inl rfl))) (fun _ _ _ _ _ => pts_nil) (fun _ _ _ _ _ => (pe_tup (pa_cons (k_bm K PySem.F.plainAttrs_list PySem.F.slot_list_pop PySem.F.type_list_pop mt_popAt (pv 3) (pa_cons (pe_call G_law_take (hr.mono (by decide)) (by rfl) T.g_law_take T.f_law_take.kp T.b_law_take .nil pass0 (pa_cons (pv 0) (pa_cons (pe_callB (k_len_seq K) (by rfl) T.z_len (by decide +kernel) (pa_cons (pv 3) pa_nil)) pa_nil))) pa_nil)) (pa_cons (pe_op op_add pe_int (pe_call G_law_take (hr.mono (by decide)) (by rfl) T.g_law_take T.f_law_take.kp T.b_law_take .nil pass0 (pa_cons (pv 0) (pa_cons pe_int pa_nil)))) pa_nil)))))
      (pss_one (ps_ret (pe_tup (pa_cons (pe_op op_add pe_int (pe_call G_law_take (hr.mono (by decide)) (by rfl) T.g_law_take T.f_law_take.kp T.b_law_take .nil pass0 (pa_cons (pv 0) (pa_cons pe_int pa_nil)))) (pa_cons (pe_callTy call_tuple_of (by rfl) T.z_tuple (by decide +kernel) (pa_cons (pv 5) pa_nil)) pa_nil)))))))), ?_⟩
    refine ⟨_, rfl, by decide +kernel, fun pl npl => ?_⟩
    rw [show rListS _ = cV alph from alph_eq]
    have nplx : pl ≠ x := hB.ne npl
    have e1 : Ex H (upd H pl (.lst (cV alph))) := ex_new npl
    have hpl : (upd H pl (.lst (cV alph))) pl = some (.lst (cV alph)) := upd_same
    have hB1 : BoxAt (upd H pl (.lst (cV alph))) x := hB.mono e1
    generalize upd H pl (.lst (cV alph)) = H1 at e1 hpl hB1 ⊢
    -- many
    refine ⟨.int 1, rfl, .ref x, rfl, .int 6, rfl, .int 1, rfl, 6, 1, rfl, rfl, _, 1, rfl, rfl, x, (6 - 1 + 1), rfl, hB1, by decide, by decide, fun d H2 d0 d1 e2 hB2 => ⟨1, d, rfl, rfl, ?_⟩⟩
    have hpl2 := up nplx hpl e2
    have e02 : Ex (K96.rm H x) H2 := (ex_rm (rm_ex.trans e1) rm_same).trans e2
    refine ⟨_, rfl, 1 + d, rfl, by omega, by omega, fun D hD => ?_⟩
    have nDx : D ≠ x := hB2.ne hD
    have nDp : D ≠ pl := fun z => by rw [z, hpl2] at hD; cases hD
    have nD0 : K96.rm H x D = none := fresh_back e02 hD
    have npl0 : K96.rm H x pl = none := rm_none npl
    refine lc_it walk_range (fun i H' => BoxAt H' x ∧ Ex (K96.rm H x) H' ∧ ∃ (rs : List Addr) (ls : List (Nat × Int)) (rem : List Nat), H' D = some (.lst (rs.map V.ref)) ∧ H' pl = some (.lst (cV rem)) ∧ rs.length = ls.length ∧ ls.length = i ∧ rem.length + i = 26 ∧ (ls.map (·.1) ++ rem).Nodup ∧
        (∀ c ∈ ls.map (·.1) ++ rem, 97 ≤ c ∧ c ≤ 122) ∧ (∀ y ∈ ls, 10 ≤ y.2 ∧ y.2 ≤ 99) ∧ ∀ (j : Nat) (r : Addr) (y : Nat × Int), rs[j]? = some r → ls[j]? = some y → H' r = some (.tup (ltV y)))
      ⟨hB2.upd nDx, e02.mut nD0, [], [], alph, upd_same, by rw [upd_ne (Ne.symm nDp)]; exact hpl2, rfl, rfl, by decide, by simpa using alph_nd, by simpa using alph_in, (fun _ h => nomatch h), fun _ _ _ h => by simp at h⟩ (fun _ _ _ _ => trivial) ?_ ?_
    · rintro i y H3 H4 hi ⟨hB4, e4, rs, ls, rem, hL, hP, h1, h2, h3, hnd, hin, hwd, hts⟩ ⟨rfl, hy⟩
      have hi6 : i < 6 := by omega
      refine ⟨rfl, .ref pl, rfl, .inl ⟨rfl, _, SqL.of hP⟩, .ref x, rfl, .ref pl, rfl, pl, cV rem, rfl, .inl (SqL.of hP), x, _, rfl, hB4, by rw [cV_len]; omega, by rw [cV_len]; omega, fun u H5 u0 u1 e5 hB5 => ?_⟩
      rw [cV_len] at u1
      have hP5 := up nplx hP e5
      have hL5 := up nDx hL e5
      have e05 : Ex (K96.rm H x) H5 := Ex.box e4 e5
      have hts5 : ∀ (j : Nat) (r : Addr) (y : Nat × Int), rs[j]? = some r → ls[j]? = some y → H5 r = some (.tup (ltV y)) := fun j r y a1 a2 => up (hB4.tup (hts j r y a1 a2)) (hts j r y a1 a2) e5
      have hk : u.toNat < rem.length := by omega
      have gk : (cV rem)[u.toNat]? = some (.str (sx [rem[u.toNat]])) := by
        unfold cV
        rw [List.getElem?_map, List.getElem?_eq_getElem hk]
        rfl
      refine ⟨pl, cV rem, u, u.toNat, _, rfl, rfl, hP5, by omega, by omega, by rw [cV_len]; exact idx_of u0 u1, gk, ?_⟩
      have er : (cV rem).eraseIdx u.toNat = cV (rem.eraseIdx u.toNat) := by
        exact cV_er _ _
      rw [er]
      have hB6 : BoxAt (upd H5 pl (.lst (cV (rem.eraseIdx u.toNat)))) x := hB5.upd nplx
      have e06 : Ex (K96.rm H x) (upd H5 pl (.lst (cV (rem.eraseIdx u.toNat)))) := e05.mut npl0
      have hP6 : (upd H5 pl (.lst (cV (rem.eraseIdx u.toNat)))) pl = some (.lst (cV (rem.eraseIdx u.toNat))) := upd_same
      have hL6 : (upd H5 pl (.lst (cV (rem.eraseIdx u.toNat)))) D = some (.lst (rs.map V.ref)) := by rw [upd_ne nDp]; exact hL5
      have hts6 : ∀ (j : Nat) (r : Addr) (y : Nat × Int), rs[j]? = some r → ls[j]? = some y → (upd H5 pl (.lst (cV (rem.eraseIdx u.toNat)))) r = some (.tup (ltV y)) := fun j r y a1 a2 => by
        have q := hts5 j r y a1 a2
        rw [upd_ne (ne_of q hP5 (by intro z; cases z))]
        exact q
      generalize upd H5 pl (.lst (cV (rem.eraseIdx u.toNat))) = H6 at hB6 e06 hP6 hL6 hts6 ⊢
      refine ⟨.ref x, rfl, x, 90, rfl, hB6, by decide, by decide, fun v H7 v0 v1 e7 hB7 => ⟨10, v, rfl, rfl, (by show 2 ≤ sizeLine; decide), fun t nt => ?_⟩⟩
      have hP7 := up nplx hP6 e7
      have hL7 := up nDx hL6 e7
      have e07 : Ex (K96.rm H x) H7 := Ex.box e06 e7
      have nDt : D ≠ t := ne_of_none hL7 nt
      have npt : pl ≠ t := ne_of_none hP7 nt
      have ntx : t ≠ x := hB7.ne nt
      refine ⟨rs.map V.ref, by rw [upd_ne nDt]; exact hL7, ?_, ?_⟩
      · rw [List.length_map]
        exact small1000 (by omega)
      · refine ⟨(hB7.upd ntx).upd nDx, (e07.trans (ex_new nt)).mut nD0, rs ++ [t], ls ++ [(rem[u.toNat], 10 + v)], rem.eraseIdx u.toNat, ?_, ?_, ?_, ?_, ?_, ?_, ?_, ?_, ?_⟩
        · rw [upd_same, List.map_append]
          rfl
        · rw [upd_ne (Ne.symm nDp), upd_ne npt]
          exact hP7
        · simp [h1]
        · simp [h2]
        · rw [List.length_eraseIdx_of_lt hk]
          omega
        · have pm : (ls.map (·.1) ++ rem).Perm ((ls ++ [(rem[u.toNat], 10 + v)]).map (·.1) ++ rem.eraseIdx u.toNat) := by
            rw [List.map_append, List.append_assoc]
            refine List.Perm.append_left _ ?_
            exact (er_perm _ _ hk).symm
          exact pm.nodup_iff.mp hnd
        · have pm : (ls.map (·.1) ++ rem).Perm ((ls ++ [(rem[u.toNat], 10 + v)]).map (·.1) ++ rem.eraseIdx u.toNat) := by
            rw [List.map_append, List.append_assoc]
            refine List.Perm.append_left _ ?_
            exact (er_perm _ _ hk).symm
          intro c hc
          exact hin c (pm.mem_iff.mpr hc)
        · intro y hy
          rcases List.mem_append.mp hy with hy | hy
          · exact hwd y hy
          · cases List.mem_singleton.mp hy
            exact ⟨by show 10 ≤ 10 + v; omega, by show 10 + v ≤ 99; omega⟩
        · intro j r y a1 a2
          by_cases hlt : j < rs.length
          · rw [List.getElem?_append_left hlt] at a1
            rw [List.getElem?_append_left (by omega)] at a2
            have q := up (hB6.tup (hts6 j r y a1 a2)) (hts6 j r y a1 a2) e7
            rw [upd_ne (ne_of q hL7 (by intro z; cases z)), upd_ne (ne_of_none q nt)]
            exact q
          · have hb := (List.getElem?_eq_some_iff.mp a1).1
            rw [List.length_append, List.length_singleton] at hb
            have ei : j = rs.length := by omega
            subst ei
            rw [List.getElem?_append_right (Nat.le_refl _), Nat.sub_self] at a1
            rw [h1, List.getElem?_append_right (Nat.le_refl _), Nat.sub_self] at a2
            cases a1
            cases a2
            rw [upd_ne (Ne.symm nDt), upd_same]
            rfl
    · rintro H3 ⟨hB3, e3, rs, ls, rem, hL, hP, h1, h2, h3, hnd, hin, hwd, hts⟩
      refine ⟨.ref x, rfl, x, 99, rfl, hB3, by decide, by decide, fun u H4 u0 u1 e4 hB4 => ⟨1, u, rfl, rfl, ?_⟩⟩
      have hL4 := up nDx hL e4
      have hts4 : ∀ (j : Nat) (r : Addr) (y : Nat × Int), rs[j]? = some r → ls[j]? = some y → H4 r = some (.tup (ltV y)) := fun j r y a1 a2 => up (hB3.tup (hts j r y a1 a2)) (hts j r y a1 a2) e4
      refine ⟨.ref D, rfl, D, _, rfl, .inl ⟨SqL.of hL4, fun l hl => ⟨(by show 2 ≤ sizeLine; decide), fun f hf => ?_⟩⟩⟩
      have ef : Ex H4 (upd (upd H4 l (.tup (rs.map V.ref))) f (.tup [.int (1 + u), .ref l])) := (ex_new hl).trans (ex_new hf)
      have hBf := hB4.mono ef
      have nlf : l ≠ f := fun z => by
        rw [← z, upd_same] at hf
        cases hf
      refine k f _ (1 + u) ls ((Ex.box e3 e4).trans ef) hBf (FaceAt.rm hBf ⟨l, upd_same, rs, ?_, h1, fun j r y a1 a2 => ef _ _ (hts4 j r y a1 a2)⟩) ⟨by omega, by omega, by omega, by omega, ?_, ?_, hwd⟩
      · rw [upd_ne nlf, upd_same]
      · exact (List.nodup_append.mp hnd).1
      · intro y hy
        exact hin y.1 (List.mem_append_left _ (List.mem_map.mpr ⟨y, hy, rfl⟩))
end
end K96
namespace K96
open PySem PySem.Spec PyProof.Rows L2 Evl TL
def cSc : Stmt → Scope
  | .Assign _ (.ListComp _ _ sc _) _ => sc
  | s => defScope s
abbrev scp_law_rows_0 : Scope := cSc ((defBody s_law_rows).getD 3 (.Pass ⟨0, 0, 0, 0⟩))
abbrev scp_law_rows_1 : Scope := cSc ((defBody s_law_rows).getD 4 (.Pass ⟨0, 0, 0, 0⟩))
def nV (fs : List Nat) : List V := fs.map fun (k : Nat) => V.int (k : Int)
theorem nV_len (fs : List Nat) : (nV fs).length = fs.length := by simp [nV]
theorem nV_at {fs : List Nat} {i : Nat} (h : i < fs.length) : (nV fs)[i]? = some (.int (fs[i] : Int)) := by
  unfold nV
  rw [List.getElem?_map, List.getElem?_eq_getElem h]
  rfl
theorem nV_snoc (fs : List Nat) (d : Int) (h : 0 ≤ d) : nV fs ++ [.int d] = nV (fs ++ [d.toNat]) := by
  unfold nV
  rw [List.map_append, List.map_cons, List.map_nil, Int.toNat_of_nonneg h]
/-- rows rr at a, of n small ints each; a and the rows stand apart from the box x, and are new since G -/
def RX (G H : Hp) (x a : Addr) (n : Nat) (rr : List Addr) : Prop :=
  a ≠ x ∧ G a = none ∧ H a = some (.lst (rr.map V.ref)) ∧ ∀ r ∈ rr, r ≠ x ∧ r ≠ a ∧ G r = none ∧ ∃ xs : List Int, H r = some (.lst (iV xs)) ∧ xs.length = n ∧ ∀ y ∈ xs, -9 ≤ y ∧ y ≤ 9
theorem RX.up {G H H' : Hp} {x a : Addr} {n : Nat} {rr : List Addr} (h : RX G H x a n rr) (e : Ex (K96.rm H x) H') : RX G H' x a n rr := by
  obtain ⟨h1, h2, h3, h4⟩ := h
  refine ⟨h1, h2, K96.up h1 h3 e, fun r hr => ?_⟩
  obtain ⟨a1, a2, a3, xs, a4, a5⟩ := h4 r hr
  exact ⟨a1, a2, a3, xs, K96.up a1 a4 e, a5⟩
theorem RX.mono {G H H' : Hp} {x a : Addr} {n : Nat} {rr : List Addr} (h : RX G H x a n rr) (e : Ex H H') : RX G H' x a n rr := h.up (rm_ex.trans e)
theorem RX.push {G H : Hp} {x a : Addr} {n : Nat} {rr : List Addr} (h : RX G H x a n rr) {r : Addr} {xs : List Int} (r1 : r ≠ x) (r2 : r ≠ a) (r3 : G r = none) (r4 : H r = some (.lst (iV xs))) (r5 : xs.length = n) (r6 : ∀ y ∈ xs, -9 ≤ y ∧ y ≤ 9) : RX G (upd H a (.lst (rr.map V.ref ++ [.ref r]))) x a n (rr ++ [r]) := by
  obtain ⟨h1, h2, h3, h4⟩ := h
  refine ⟨h1, h2, by rw [upd_same, List.map_append]; rfl, fun q hq => ?_⟩
  rcases List.mem_append.mp hq with hq | hq
  · obtain ⟨a1, a2, a3, xs, a4, a5⟩ := h4 q hq
    exact ⟨a1, a2, a3, xs, by rw [upd_ne a2]; exact a4, a5⟩
  · cases List.mem_singleton.mp hq
    exact ⟨r1, r2, r3, xs, by rw [upd_ne r2]; exact r4, r5, r6⟩
theorem RX.set {G H : Hp} {x a : Addr} {n : Nat} {rr : List Addr} (h : RX G H x a n rr) {r : Addr} {ys : List Int} (hr : r ∈ rr) (r5 : ys.length = n) (r6 : ∀ y ∈ ys, -9 ≤ y ∧ y ≤ 9) : RX G (upd H r (.lst (iV ys))) x a n rr := by
  obtain ⟨h1, h2, h3, h4⟩ := h
  refine ⟨h1, h2, by rw [upd_ne (Ne.symm (h4 r hr).2.1)]; exact h3, fun q hq => ?_⟩
  obtain ⟨a1, a2, a3, xs, a4, a5⟩ := h4 q hq
  refine ⟨a1, a2, a3, ?_⟩
  by_cases e : q = r
  · subst e
    exact ⟨ys, upd_same, r5, r6⟩
  · exact ⟨xs, by rw [upd_ne e]; exact a4, a5⟩
theorem RX.rows {G H : Hp} {x a : Addr} {n : Nat} {rr : List Addr} (h : RX G H x a n rr) (e : rr.length = n) : RowsAt (K96.rm H x) a n := by
  obtain ⟨h1, h2, h3, h4⟩ := h
  refine ⟨rr, by rw [rm_ne h1]; exact h3, e, fun r hr => ?_⟩
  obtain ⟨a1, a2, a3, xs, a4, a5, a6⟩ := h4 r hr
  exact ⟨xs, by rw [rm_ne a1]; exact a4, a5, a6⟩
theorem mem_snoc {α : Type} {p : α → Prop} {l : List α} {x : α} (h : ∀ y ∈ l, p y) (hx : p x) : ∀ y ∈ l ++ [x], p y := fun y hy => by
  rcases List.mem_append.mp hy with hy | hy
  · exact h y hy
  · cases List.mem_singleton.mp hy
    exact hx
theorem iV_snoc (xs : List Int) (x : Int) : iV xs ++ [.int x] = iV (xs ++ [x]) := by
  unfold iV
  rw [List.map_append]
  rfl
def near : List Int := [0, 0, 1, -1, 9, -9, 4]
theorem near_in : ∀ y ∈ near, -9 ≤ y ∧ y ≤ 9 := by decide
section
variable {P : Program} {w : World} {K : PySem.W.Frag} {mg : Str → Option Value} {base : Heap}
def sp_law_rows : Sp := fun vs H Q _ => ∃ (x : Addr) (n : Nat), vs = [.ref x, .int (n : Int)] ∧ BoxAt H x ∧ 1 ≤ n ∧ n ≤ 6 ∧ ∀ a H', Ex (rm H x) H' → BoxAt H' x → RowsAt (rm H' x) a n → Q (.ref a) H'
theorem ok_law_rows (T : Tx K mg) : FnOk P w K mg base CX0 2 T.a_law_rows T.d_law_rows ["_law_box_here", "_law_many"] sp_law_rows := by
  have G_law_take : FnOk P w K mg base CX0 1 T.a_law_take T.d_law_take ["_law_box_here", "_law_many"] sp_law_take := ok_law_take T
  refine T.f_law_rows.ok sc_law_rows (fun vs H Q E h => ?_) (fun cdv A outer s H vs Q E hr h => ?_)
  · obtain ⟨x, n, rfl, _⟩ := h
    rfl
  · obtain ⟨x, n, rfl, hB, n1, n6, k⟩ := h
    refine ⟨_,       (pss_cons (ps_setLc (i := 2) (own := [("_law_place", 8)]) (g := gName 8) (tt := tYes) rfl sc_law_rows.nd rfl rfl (sw_true rfl rfl rfl (by decide +kernel)) (pi_range1 (by rfl) T.z_range (pa_cons (pv 1) pa_nil)) (blkOk_by (own := [("_law_place", 8)]) (N := N_law_rows) (sc := defScope s_law_rows) (by decide +kernel)) (fun _ _ _ _ _ => (pg_name (i := 8) sc_law_rows.nd rfl (.inl rfl))) (fun _ _ _ _ _ => pts_nil) (fun _ _ _ _ _ => (pe_call G_law_take (hr.mono (by decide)) (by rfl) T.g_law_take T.f_law_take.kp T.b_law_take .nil pass0 (pa_cons (pv 0) (pa_cons pe_int pa_nil)))))
      (pss_cons (ps_set (i := 3) sc_law_rows.nd rfl (.inr rfl) (pe_lc (own := [("_law_place", 8)]) (g := gName 8) (tt := tYes) rfl sc_law_rows.nd (pi_range1 (by rfl) T.z_range (pa_cons (pv 1) pa_nil)) (blkOk_by (own := [("_law_place", 8)]) (N := N_law_rows) (sc := defScope s_law_rows) (by decide +kernel)) (fun _ _ _ _ _ => (pg_name (i := 8) sc_law_rows.nd rfl (.inl rfl))) (fun _ _ _ _ _ => pts_nil) (fun _ _ _ _ _ => (pe_call G_law_take (hr.mono (by decide)) (by rfl) T.g_law_take T.f_law_take.kp T.b_law_take .nil pass0 (pa_cons (pv 0) (pa_cons pe_int pa_nil))))))
      (pss_cons (ps_set (i := 4) sc_law_rows.nd rfl (.inr rfl) (pe_lst (pa_cons pe_int (pa_cons pe_int (pa_cons pe_int (pa_cons (pe_un un_neg pe_int) (pa_cons pe_int (pa_cons (pe_un un_neg pe_int) (pa_cons pe_int pa_nil)))))))))
      (pss_cons (ps_set (i := 5) sc_law_rows.nd rfl (.inr rfl) (pe_lc (own := [("_law_first", 9)]) (g := gName 9) (tt := tYes) rfl sc_law_rows.nd (pi_range1 (by rfl) T.z_range (pa_cons pe_int pa_nil)) (blkOk_by (own := [("_law_first", 9)]) (N := N_law_rows) (sc := defScope s_law_rows) (by decide +kernel)) (fun _ _ _ _ _ => (pg_name (i := 9) sc_law_rows.nd rfl (.inl rfl))) (fun _ _ _ _ _ => pts_nil) (fun _ _ _ _ _ => (pe_lc (own := [("_law_second", 10)]) (g := gName 10) (tt := tYes) rfl sc_law_rows.nd (pi_range1 (by rfl) T.z_range (pa_cons pe_int pa_nil)) (blkOk_by (own := [("_law_second", 10)]) (N := N_law_rows) (sc := relS scp_law_rows_0 (defScope s_law_rows)) (by decide +kernel)) (fun _ _ _ _ _ => (pg_name (i := 10) sc_law_rows.nd rfl (.inl rfl))) (fun _ _ _ _ _ => pts_nil) (fun _ _ _ _ _ => (pe_ix (k_ix_list K) (pv 4) (pe_call G_law_take (hr.mono (by decide)) (by rfl) T.g_law_take T.f_law_take.kp T.b_law_take .nil pass0 (pa_cons (pv 0) (pa_cons pe_int pa_nil))) (fun _ _ => rfl)))))))
      (pss_cons (ps_setLc (i := 6) (own := [("_law_first", 9)]) (g := gName 9) (tt := tYes) rfl sc_law_rows.nd rfl rfl (sw_true rfl rfl rfl (by decide +kernel)) (pi_list (pv 2)) (blkOk_by (own := [("_law_first", 9)]) (N := N_law_rows) (sc := defScope s_law_rows) (by decide +kernel)) (fun _ _ _ _ _ => (pg_name (i := 9) sc_law_rows.nd rfl (.inr rfl))) (fun _ _ _ _ _ => pts_nil) (fun _ _ _ _ _ => (pe_lc (own := [("_law_second", 10)]) (g := gName 10) (tt := tYes) rfl sc_law_rows.nd (k_pi_list K (pv 3)) (blkOk_by (own := [("_law_second", 10)]) (N := N_law_rows) (sc := relS scp_law_rows_1 (defScope s_law_rows)) (by decide +kernel)) (fun _ _ _ _ _ => (pg_name (i := 10) sc_law_rows.nd rfl (.inl rfl))) (fun _ _ _ _ _ => pts_nil) (fun _ _ _ _ _ => (pe_ix (k_ix_list K) (pe_ix (k_ix_list K) (pv 5) (pv 9) (fun _ _ => rfl)) (pv 10) (fun _ _ => rfl))))))
      (pss_cons (ps_for PassesOwn.never rfl (pi_range1 (by rfl) T.z_range (pa_cons (pe_call G_law_take (hr.mono (by decide)) (by rfl) T.g_law_take T.f_law_take.kp T.b_law_take .nil pass0 (pa_cons (pv 0) (pa_cons pe_int pa_nil))) pa_nil)) (pg_name (i := 7) sc_law_rows.nd rfl (.inl rfl)) 
        (pss_one (ps_asg (pe_op op_sub (pe_call G_law_take (hr.mono (by decide)) (by rfl) T.g_law_take T.f_law_take.kp T.b_law_take .nil pass0 (pa_cons (pv 0) (pa_cons pe_int pa_nil))) pe_int) (pg_sub (pe_ix ix_list (pv 6) (pe_call G_law_take (hr.mono (by decide)) (by rfl) T.g_law_take T.f_law_take.kp T.b_law_take .nil pass0 (pa_cons (pv 0) (pa_cons (pv 1) pa_nil))) (fun _ _ => rfl)) (pe_call G_law_take (hr.mono (by decide)) (by rfl) T.g_law_take T.f_law_take.kp T.b_law_take .nil pass0 (pa_cons (pv 0) (pa_cons (pv 1) pa_nil))) set_list))))
      (pss_one (ps_ret (pv 6))))))))), ?_⟩
    -- the firsts
    refine ⟨_, rfl, (n : Int), rfl, by omega, by omega, fun D1 hD1 => ?_⟩
    have nD1x : D1 ≠ x := hB.ne hD1
    refine lc_it walk_range (fun i H' => BoxAt H' x ∧ Ex (K96.rm H x) H' ∧ ∃ fs : List Nat, H' D1 = some (.lst (nV fs)) ∧ fs.length = i ∧ ∀ f ∈ fs, f < 3)
      ⟨hB.upd nD1x, rm_ex.mut (rm_none hD1), [], upd_same, rfl, fun _ h => nomatch h⟩ (fun _ _ _ _ => trivial) ?_ ?_
    · rintro i y H1 H2 hi ⟨hB1, e1, fs, hL, hl, hf⟩ ⟨rfl, hy⟩
      refine ⟨rfl, .ref x, rfl, x, 3, rfl, hB1, by decide, by decide, fun u H3 u0 u1 e3 hB3 => ⟨_, up nD1x hL e3, ?_, hB3.upd nD1x, (Ex.box e1 e3).mut (rm_none hD1), fs ++ [u.toNat], ?_, ?_, mem_snoc hf (by omega)⟩⟩
      · rw [nV_len]
        exact small1000 (by omega)
      · rw [upd_same, nV_snoc _ _ u0]
      · rw [List.length_append, hl]
        rfl
    rintro H1 ⟨hB1, e1, fs1, hL1, hl1, hf1⟩
    -- the seconds
    refine ⟨_, rfl, (n : Int), rfl, by omega, by omega, fun D2 hD2 => ?_⟩
    have nD2x : D2 ≠ x := hB1.ne hD2
    have n12 : D1 ≠ D2 := ne_of_none hL1 hD2
    refine lc_it walk_range (fun i H' => BoxAt H' x ∧ Ex (K96.rm H1 x) H' ∧ ∃ fs : List Nat, H' D2 = some (.lst (nV fs)) ∧ fs.length = i ∧ ∀ f ∈ fs, f < 3)
      ⟨hB1.upd nD2x, rm_ex.mut (rm_none hD2), [], upd_same, rfl, fun _ h => nomatch h⟩ (fun _ _ _ _ => trivial) ?_ ?_
    · rintro i y H2 H3 hi ⟨hB2, e2, fs, hL, hl, hf⟩ ⟨rfl, hy⟩
      refine ⟨rfl, .ref x, rfl, x, 3, rfl, hB2, by decide, by decide, fun u H3 u0 u1 e3 hB3 => ⟨_, up nD2x hL e3, ?_, hB3.upd nD2x, (Ex.box e2 e3).mut (rm_none hD2), fs ++ [u.toNat], ?_, ?_, mem_snoc hf (by omega)⟩⟩
      · rw [nV_len]
        exact small1000 (by omega)
      · rw [upd_same, nV_snoc _ _ u0]
      · rw [List.length_append, hl]
        rfl
    rintro H2 ⟨hB2, e2, fs2, hL2, hl2, hf2⟩
    have hL12 : H2 D1 = some (.lst (nV fs1)) := up nD1x hL1 e2
    have e02 : Ex (K96.rm H x) H2 := Ex.box e1 e2
    -- near
    refine ⟨_, rfl, _, rfl, (by show 7 ≤ sizeLine; decide), fun D3 hD3 => ?_⟩
    have nD3x : D3 ≠ x := hB2.ne hD3
    have hL13 : upd H2 D3 (.lst (iV near)) D1 = some (.lst (nV fs1)) := by rw [upd_ne (ne_of_none hL12 hD3)]; exact hL12
    have hL23 : upd H2 D3 (.lst (iV near)) D2 = some (.lst (nV fs2)) := by rw [upd_ne (ne_of_none hL2 hD3)]; exact hL2
    have hL3 : upd H2 D3 (.lst (iV near)) D3 = some (.lst (iV near)) := upd_same
    have hB3 : BoxAt (upd H2 D3 (.lst (iV near))) x := hB2.upd nD3x
    have e03 : Ex (K96.rm H x) (upd H2 D3 (.lst (iV near))) := e02.trans (ex_new hD3)
    dsimp only
    rw [show ([.int 0, .int 0, .int 1, .int (-1), .int 9, .int (-9), .int 4] : List V) = iV near from rfl]
    generalize upd H2 D3 (.lst (iV near)) = H3 at hL13 hL23 hL3 hB3 e03 ⊢
    -- the gaps
    refine ⟨_, rfl, by decide, by decide, fun D4 hD4 => ?_⟩
    have nD4x : D4 ≠ x := hB3.ne hD4
    refine lc_it walk_range (fun i H' => BoxAt H' x ∧ Ex (K96.rm H3 x) H' ∧ ∃ rr : List Addr, RX (K96.rm H3 x) H' x D4 3 rr ∧ rr.length = i)
      ⟨hB3.upd nD4x, rm_ex.mut (rm_none hD4), [], ⟨nD4x, rm_none hD4, upd_same, fun _ h => nomatch h⟩, rfl⟩ (fun _ _ _ _ => trivial) ?_ ?_
    · rintro i y H4 H4' hi ⟨hB4, e4, rr, hR, hl⟩ ⟨eh, hy⟩
      subst H4'
      refine ⟨rfl, ?_⟩
      refine ⟨_, rfl, by decide, by decide, fun D5 hD5 => ?_⟩
      have nD5x : D5 ≠ x := hB4.ne hD5
      refine lc_it walk_range (fun j H' => BoxAt H' x ∧ Ex (K96.rm H4 x) H' ∧ ∃ xs : List Int, H' D5 = some (.lst (iV xs)) ∧ xs.length = j ∧ ∀ y ∈ xs, -9 ≤ y ∧ y ≤ 9)
        ⟨hB4.upd nD5x, rm_ex.mut (rm_none hD5), [], upd_same, rfl, fun _ h => nomatch h⟩ (fun _ _ _ _ => trivial) ?_ ?_
      · rintro j z H5 H5' hj ⟨hB5, e5, xs, hL, hlx, hx⟩ ⟨eh, hz⟩
        subst H5'
        refine ⟨rfl, .ref D3, rfl, .ref x, rfl, x, 7, rfl, hB5, by decide, by decide, fun u H7 u0 u1 e7 hB7 => ?_⟩
        obtain ⟨m, rfl⟩ : ∃ m : Nat, u = m := ⟨u.toNat, by omega⟩
        have hm : m < near.length := by
          show m < 7
          omega
        have gm : (iV near)[m]? = some (.int near[m]) := by
          unfold iV
          rw [List.getElem?_map, List.getElem?_eq_getElem hm]
          rfl
        refine ⟨D3, iV near, m, .int near[m], rfl, rfl, SqL.of (up nD3x (up nD3x (up nD3x hL3 e4) e5) e7), atI_nat gm, _, up nD5x hL e7, ?_, hB7.upd nD5x, (Ex.box e5 e7).mut (rm_none hD5), xs ++ [near[m]], ?_, ?_, mem_snoc hx (near_in _ (List.getElem_mem hm))⟩
        · rw [iV_len]
          exact small1000 (by omega)
        · rw [upd_same, iV_snoc]
        · rw [List.length_append, hlx]
          rfl
      · rintro H5 ⟨hB5, e5, xs, hL, hlx, hx⟩
        have hR5 := hR.up e5
        have n54 : D5 ≠ D4 := fun z => by
          rw [z, hR.2.2.1] at hD5
          cases hD5
        refine ⟨_, hR5.2.2.1, ?_, hB5.upd nD4x, (Ex.box e4 e5).mut (rm_none hD4), rr ++ [D5], hR5.push nD5x n54 (fresh_back e4 hD5) hL hlx hx, ?_⟩
        · rw [List.length_map]
          exact small1000 (by omega)
        · rw [List.length_append, hl]
          rfl
    rintro H4 ⟨hB4, e4, gr, hR4, hl4⟩
    have hL14 : H4 D1 = some (.lst (nV fs1)) := up nD1x hL13 e4
    have hL24 : H4 D2 = some (.lst (nV fs2)) := up nD2x hL23 e4
    have e04 : Ex (K96.rm H x) H4 := Ex.box e03 e4
    -- the rows
    have hgr := hR4.2.2.1
    have hgs : ∀ (m : Nat) (h : m < gr.length), ∃ xs : List Int, H4 gr[m] = some (.lst (iV xs)) ∧ xs.length = 3 ∧ ∀ y ∈ xs, -9 ≤ y ∧ y ≤ 9 := fun m h => (hR4.2.2.2 _ (List.getElem_mem h)).2.2.2
    refine ⟨.ref D1, rfl, D1, rfl, ⟨_, SqL.of hL14⟩, fun D6 hD6 => ?_⟩
    have nD6x : D6 ≠ x := hB4.ne hD6
    have nD60 : K96.rm H x D6 = none := fresh_back e04 hD6
    refine lc_it (walk_list (xs := nV fs1)) (fun i H' => Ex H4 H' ∧ ∃ rr : List Addr, RX (K96.rm H x) H' x D6 n rr ∧ rr.length = i)
      ⟨ex_new hD6, [], ⟨nD6x, nD60, upd_same, fun _ h => nomatch h⟩, rfl⟩ (fun i H' _ h => SqL.of (h.1 _ _ hL14)) ?_ ?_
    · rintro i y H5 H5' hi ⟨e5, rr, hR, hl⟩ ⟨eh, hy⟩
      subst H5'
      rw [nV_len] at hi
      rw [nV_at hi] at hy
      cases hy
      have hif := hf1 _ (List.getElem_mem hi)
      obtain ⟨gx, hg1, hg2, hg3⟩ := hgs fs1[i] (by omega)
      refine ⟨rfl, .ref D2, rfl, D2, rfl, ⟨_, SqL.of (e5 _ _ hL24)⟩, fun D7 hD7 => ?_⟩
      have nD7x : D7 ≠ x := (hB4.mono e5).ne hD7
      refine lc_it (walk_list (xs := nV fs2)) (fun j H' => Ex H5 H' ∧ ∃ xs : List Int, H' D7 = some (.lst (iV xs)) ∧ xs.length = j ∧ ∀ y ∈ xs, -9 ≤ y ∧ y ≤ 9)
        ⟨ex_new hD7, [], upd_same, rfl, fun _ h => nomatch h⟩ (fun j H' _ h => SqL.of (h.1 _ _ (e5 _ _ hL24))) ?_ ?_
      · rintro j z H6 H6' hj ⟨e6, xs, hL, hlx, hx⟩ ⟨eh, hz⟩
        subst H6'
        rw [nV_len] at hj
        rw [nV_at hj] at hz
        cases hz
        have hjf := hf2 _ (List.getElem_mem hj)
        have e46 := e5.trans e6
        have g1 : (gr.map V.ref)[fs1[i]]? = some (.ref (gr[fs1[i]]'(by omega))) := by
          rw [List.getElem?_map, List.getElem?_eq_getElem]
          rfl
        have g2 : (iV gx)[fs2[j]]? = some (.int (gx[fs2[j]]'(by omega))) := by
          unfold iV
          rw [List.getElem?_map, List.getElem?_eq_getElem]
          rfl
        refine ⟨rfl, .ref D4, rfl, _, rfl, D4, gr.map V.ref, (fs1[i] : Nat), _, rfl, rfl, SqL.of (e46 _ _ hgr), atI_nat g1, _, rfl, _, iV gx, (fs2[j] : Nat), _, rfl, rfl, SqL.of (e46 _ _ hg1), atI_nat g2, _, hL, ?_, e6.mut hD7, xs ++ [gx[fs2[j]]'(by omega)], ?_, ?_, mem_snoc hx (hg3 _ (List.getElem_mem _))⟩
        · rw [iV_len]
          exact small1000 (by omega)
        · rw [upd_same, iV_snoc]
        · rw [List.length_append, hlx]
          rfl
      · rintro H6 ⟨e6, xs, hL, hlx, hx⟩
        have hR6 := hR.mono e6
        have n76 : D7 ≠ D6 := fun z => by
          rw [z, hR.2.2.1] at hD7
          cases hD7
        rw [nV_len] at hlx
        refine ⟨_, hR6.2.2.1, ?_, (e5.trans e6).mut hD6, rr ++ [D7], hR6.push nD7x n76 (fresh_back (e04.trans e5) hD7) hL (by omega) hx, ?_⟩
        · rw [List.length_map]
          exact small1000 (by omega)
        · rw [List.length_append, hl]
          rfl
    rintro H5 ⟨e5, rr, hR5, hl5⟩
    rw [nV_len] at hl5
    have e05 : Ex (K96.rm H x) H5 := e04.trans e5
    have hB5 := hB4.mono e5
    -- some gaps set
    refine ⟨.ref x, rfl, x, 4, rfl, hB5, by decide, by decide, fun u H6 u0 u1 e6 hB6 => ?_⟩
    have hR6 := hR5.up e6
    have e06 := Ex.box e05 e6
    refine ⟨u, rfl, by omega, by omega, ?_⟩
    refine for_it walk_range (fun i σ H' => ∃ y7 y8 y9 y10, σ = [some (.ref x), some (.int (n : Int)), some (.ref D1), some (.ref D2), some (.ref D3), some (.ref D4), some (.ref D6), y7, y8, y9, y10] ∧ BoxAt H' x ∧ Ex (K96.rm H x) H' ∧ RX (K96.rm H x) H' x D6 n rr)
      ⟨_, _, _, _, rfl, hB6, e06, hR6⟩ (fun _ _ _ _ _ => trivial) ?_ ?_
    · rintro i y σ H7 H7' hi ⟨y7, y8, y9, y10, rfl, hB7, e7, hR7⟩ ⟨eh, hy⟩
      subst H7'
      refine ⟨.ref x, rfl, x, 19, rfl, hB7, by decide, by decide, fun g H8 g0 g1 e8 hB8 => ⟨g, 9, rfl, rfl, ?_⟩⟩
      have hR8 := hR7.up e8
      refine ⟨.ref D6, rfl, .ref x, rfl, .int (n : Int), rfl, x, (n : Int), rfl, hB8, by omega, by omega, fun p H9 p0 p1 e9 hB9 => ?_⟩
      have hR9 := hR8.up e9
      obtain ⟨m, rfl⟩ : ∃ m : Nat, p = m := ⟨p.toNat, by omega⟩
      have hm : m < rr.length := by omega
      have gm : (rr.map V.ref)[m]? = some (.ref rr[m]) := by
        rw [List.getElem?_map, List.getElem?_eq_getElem hm]
        rfl
      refine ⟨D6, rr.map V.ref, m, _, rfl, rfl, SqL.of hR9.2.2.1, atI_nat gm, .ref x, rfl, .int (n : Int), rfl, x, (n : Int), rfl, hB9, by omega, by omega, fun q H10 q0 q1 e10 hB10 => ?_⟩
      have hR10 := hR9.up e10
      obtain ⟨r1, r2, r3, xs, r4, r5, r6⟩ := hR10.2.2.2 _ (List.getElem_mem hm)
      have e010 := Ex.box (Ex.box (Ex.box e7 e8) e9) e10
      have es : (iV xs).set q.toNat (.int (g - 9)) = iV (xs.set q.toNat (g - 9)) := by
        unfold iV
        rw [List.map_set]
      refine ⟨rr[m], iV xs, q, q.toNat, rfl, rfl, r4, ?_, some y, y8, y9, y10, rfl, hB10.upd r1, e010.mut r3, ?_⟩
      · unfold ixN
        rw [if_pos q0, if_pos (by rw [iV_len]; omega)]
      · show RX _ (upd H10 rr[m] (.lst ((iV xs).set q.toNat (.int (g - 9))))) x D6 n rr
        rw [es]
        refine hR10.set (List.getElem_mem hm) (by rw [List.length_set]; exact r5) fun y hy => ?_
        rcases List.mem_or_eq_of_mem_set hy with h | h
        · exact r6 y h
        · omega
    · rintro σ H7 ⟨y7, y8, y9, y10, rfl, hB7, e7, hR7⟩
      exact ⟨.ref D6, rfl, k D6 H7 e7 hB7 (hR7.rows (by omega))⟩
/-- the face's pairs -/
def sp_law_pairs : Sp := fun vs H Q _ => ∃ (x f : Addr) (b : Int) (ls : List (Nat × Int)), vs = [.ref x, .ref f] ∧ BoxAt H x ∧ FaceAt (rm H x) f b ls ∧ FOk b ls ∧ ∀ p H' ps, Ex (rm H x) H' → BoxAt H' x → PairsAt (rm H' x) p ps → GOk ps → Q (.ref p) H'
theorem ok_law_pairs (T : Tx K mg) : FnOk P w K mg base CX0 3 T.a_law_pairs T.d_law_pairs ["_law_box_here", "_law_face_here"] sp_law_pairs := by
  have G_law_list : FnOk P w K mg base CX0 2 T.a_law_list T.d_law_list ["_law_face_here", "_law_rows_here"] sp_law_list := ok_law_list T
  have G_law_rows : FnOk P w K mg base CX0 2 T.a_law_rows T.d_law_rows ["_law_box_here", "_law_many"] sp_law_rows := ok_law_rows T
  refine T.f_law_pairs.ok sc_law_pairs (fun vs H Q E h => ?_) (fun cdv A outer s H vs Q E hr h => ?_)
  · obtain ⟨x, f, b, ls, rfl, _⟩ := h
    rfl
  · obtain ⟨x, f, b, ls, rfl, hB, hF, hO, k⟩ := h
    refine ⟨_,       (pss_one (ps_ret (pe_call G_law_list (hr.mono (by decide)) (by rfl) T.g_law_list T.f_law_list.kp T.b_law_list .nil pass0 (pa_cons (pv 1) (pa_cons (pe_call G_law_rows (hr.mono (by decide)) (by rfl) T.g_law_rows T.f_law_rows.kp T.b_law_rows .nil pass0 (pa_cons (pv 0) (pa_cons (pe_callB call_len_seq (by rfl) T.z_len (by decide +kernel) (pa_cons (pe_ix ix_tup (pv 1) pe_int (fun _ _ => rfl)) pa_nil)) pa_nil))) pa_nil))))), ?_⟩
    have hFH : FaceAt H f b ls := hF.mono rm_ex
    obtain ⟨q, hf, hT⟩ := hFH
    obtain ⟨rs, hq, hlen, hrs⟩ := id hT
    have n1 := hO.n1
    have n2 := hO.n2
    refine ⟨.ref f, rfl, .ref x, rfl, .ref f, rfl, f, _, 1, .ref q, rfl, rfl, SqT.of hf, rfl, q, _, rfl, .inr (SqT.of hq), x, ls.length, ?_, hB, n1, n2, fun a H1 e1 hB1 hR => ?_⟩
    · rw [List.length_map, hlen]
      rfl
    · have hB1' := hB1
      have hF1 : FaceAt H1 f b ls := hF.mono e1
      refine ⟨f, a, b, ls, rfl, hF1, hO, hR.mono rm_ex, fun p H' ps hp e2 hP hG => ?_⟩
      have hB2 := hB1.mono e2
      exact k p H' ps (e1.trans e2) hB2 (PairsAt.rm hB2 hP) hG
end
end K96
namespace K96
open PySem PySem.Spec PyProof.Rows L2 Evl TL
/-- what the law's words are: up to nine, of one to four of the face's letters -/
structure Wds (ls : List (Nat × Int)) (ws : List (List Nat)) : Prop where
  few : ws.length ≤ 9
  ne : ∀ w ∈ ws, w ≠ []
  short : ∀ w ∈ ws, w.length ≤ 4
  ltr : ∀ w ∈ ws, ∀ c ∈ w, ∃ y ∈ ls, y.1 = c
theorem joinL_ones : ∀ cs : List Nat, joinL [] (cs.map fun c => [c]) = cs
  | [] => rfl
  | [c] => rfl
  | c :: d :: r => by
    show [c] ++ ([] ++ joinL [] ((d :: r).map fun c => [c])) = c :: d :: r
    rw [joinL_ones (d :: r)]
    rfl
theorem join_ones (cs : List Nat) : Txt.join (sx []) ((cs.map fun c => [c]).map sx) = sx cs := by
  refine ext_tl ?_
  rw [join_eq, tl_join, map_tl_sx]
  exact joinL_ones cs
theorem cV_map (cs : List Nat) : (((cs.map fun c => [c]).map sx).map V.str) = cV cs := by
  unfold cV
  rw [List.map_map, List.map_map]
  rfl
theorem none_eq : Str.ofString "" = sx [] := by decide +kernel
section
variable {b : Int} {ls : List (Nat × Int)} {ps : List (Nat × Nat × Int)}
theorem ltr_ok (hO : FOk b ls) {c : Nat} (h : ∃ y ∈ ls, y.1 = c) : c ≠ 32 ∧ okc ls c = true ∧ c < 1000 ∧ 10 ≤ swd b ls c ∧ swd b ls c ≤ 99 := by
  obtain ⟨y, hy, rfl⟩ := h
  obtain ⟨h1, h2⟩ := hO.cs y hy
  have h32 : y.1 ≠ 32 := by omega
  cases hp : plc ls y.1 with
  | none =>
    unfold plc at hp
    rw [List.findIdx?_eq_none_iff] at hp
    have := hp y hy
    simp at this
  | some i =>
    have hi : i < ls.length := by
      unfold plc at hp
      rw [List.findIdx?_eq_some_iff_findIdx_eq] at hp
      exact hp.1
    have hs := swd_at (b := b) h32 hp (List.getElem?_eq_getElem hi)
    have hw := hO.ws _ (List.getElem_mem hi)
    refine ⟨h32, ?_, by omega, by omega, by omega⟩
    unfold okc
    rw [hp]
    simp
theorem btw_in (hG : GOk ps) (a c : Nat) : -9 ≤ btw ps a c ∧ btw ps a c ≤ 9 := by
  unfold btw
  split
  · omega
  · unfold gap
    split
    · omega
    · rename_i p hp
      exact hG.low p (List.mem_of_find?_eq_some hp)
theorem W_high (sw : Nat → Int) (bt : Nat → Nat → Int) (hi g : Int) (h0 : 0 ≤ g) : ∀ t : List Nat, (∀ c ∈ t, sw c ≤ hi) → (∀ c d, bt c d ≤ g) → W sw bt t ≤ t.length * (hi + g)
  | [], _, _ => by simp [W]
  | [c], h1, h2 => by
    have := h1 c (by simp)
    show sw c ≤ ((1 : Nat) : Int) * (hi + g)
    omega
  | c :: d :: r, h1, h2 => by
    have ih := W_high sw bt hi g h0 (d :: r) (fun x hx => h1 x (List.mem_cons_of_mem _ hx)) h2
    have a := h1 c (by simp)
    have e := h2 c d
    show sw c + bt c d + W sw bt (d :: r) ≤ (((d :: r).length + 1 : Nat) : Int) * (hi + g)
    rw [Int.natCast_add, Int.add_mul]
    omega
theorem Wds.wd (hO : FOk b ls) (hG : GOk ps) {w : List Nat} (ne : w ≠ []) (sh : w.length ≤ 4) (hl : ∀ c ∈ w, ∃ y ∈ ls, y.1 = c) : 10 ≤ Wd b ls ps w ∧ Wd b ls ps w ≤ 432 := by
  constructor
  · exact W_low _ _ 10 9 w (fun c hc => (ltr_ok hO (hl c hc)).2.2.2.1) (fun c _ d _ => (btw_in hG c d).1) (by decide) ne
  · have h := W_high (swd b ls) (btw ps) 99 9 (by decide) w (fun c hc => (ltr_ok hO (hl c hc)).2.2.2.2) (fun c d => (btw_in hG c d).2)
    have : (w.length : Int) * (99 + 9) ≤ 4 * (99 + 9) := Int.mul_le_mul_of_nonneg_right (by omega) (by decide)
    show W _ _ _ ≤ _
    omega
theorem Wds.wok {ws : List (List Nat)} (hO : FOk b ls) (h : Wds ls ws) : WOk ls ws :=
  ⟨h.ne, fun w hw c hc => ⟨(ltr_ok hO (h.ltr w hw c hc)).1, (ltr_ok hO (h.ltr w hw c hc)).2.1⟩, fun w hw => Nat.le_trans (h.short w hw) (by decide), Nat.le_trans h.few (by decide), fun w hw c hc => (ltr_ok hO (h.ltr w hw c hc)).2.2.1⟩
end
section
variable {P : Program} {w : World} {K : PySem.W.Frag} {mg : Str → Option Value} {base : Heap}
def sp_law_words : Sp := fun vs H Q _ => ∃ (x f : Addr) (b : Int) (ls : List (Nat × Int)), vs = [.ref x, .ref f, .int 9] ∧ BoxAt H x ∧ FaceAt (rm H x) f b ls ∧ FOk b ls ∧ ∀ wa H' ws, Ex (rm H x) H' → BoxAt H' x → rm H' x wa = some (.lst (wV ws)) → Wds ls ws → Q (.ref wa) H'
theorem ok_law_words (T : Tx K mg) : FnOk P w K mg base CX0 2 T.a_law_words T.d_law_words ["_law_box_here", "_law_face_here", "_law_most"] sp_law_words := by
  have G_law_take : FnOk P w K mg base CX0 1 T.a_law_take T.d_law_take ["_law_box_here", "_law_many"] sp_law_take := ok_law_take T
  have G_law_letters : FnOk P w K mg base CX0 1 T.a_law_letters T.d_law_letters ["_law_face_here"] sp_law_letters := ok_law_letters T
  refine T.f_law_words.ok sc_law_words (fun vs H Q E h => ?_) (fun cdv A outer s H vs Q E hr h => ?_)
  · obtain ⟨x, f, b, ls, rfl, _⟩ := h
    rfl
  · obtain ⟨x, f, b, ls, rfl, hB, hF, hO, k⟩ := h
    refine ⟨_,       (pss_cons (ps_set (i := 3) sc_law_words.nd rfl (.inr rfl) (pe_call G_law_letters (hr.mono (by decide)) (by rfl) T.g_law_letters T.f_law_letters.kp T.b_law_letters .nil pass0 (pa_cons (pv 1) pa_nil)))
      (pss_cons (ps_set (i := 4) sc_law_words.nd rfl (.inl rfl) (pe_lst pa_nil))
      (pss_cons (ps_for PassesOwn.never rfl (pi_range1 (by rfl) T.z_range (pa_cons (pe_call G_law_take (hr.mono (by decide)) (by rfl) T.g_law_take T.f_law_take.kp T.b_law_take .nil pass0 (pa_cons (pv 0) (pa_cons (pe_op op_add (pv 2) pe_int) pa_nil))) pa_nil)) (pg_name (i := 5) sc_law_words.nd rfl (.inl rfl)) 
        (pss_one (ps_expr (pe_bm PySem.F.plainAttrs_list PySem.F.slot_list_append PySem.F.type_list_append mt_append (pv 4) (pa_cons (pe_join pe_str (pe_lc (own := [("_law_place", 6)]) (g := gName 6) (tt := tYes) rfl sc_law_words.nd (pi_range1 (by rfl) T.z_range (pa_cons (pe_op op_add pe_int (pe_call G_law_take (hr.mono (by decide)) (by rfl) T.g_law_take T.f_law_take.kp T.b_law_take .nil pass0 (pa_cons (pv 0) (pa_cons pe_int pa_nil)))) pa_nil)) (blkOk_by (own := [("_law_place", 6)]) (N := N_law_words) (sc := defScope s_law_words) (by decide +kernel)) (fun _ _ _ _ _ => (pg_name (i := 6) sc_law_words.nd rfl (.inl rfl))) (fun _ _ _ _ _ => pts_nil) (fun _ _ _ _ _ => (pe_ix (k_ix_list K) (pv 3) (pe_call G_law_take (hr.mono (by decide)) (by rfl) T.g_law_take T.f_law_take.kp T.b_law_take .nil pass0 (pa_cons (pv 0) (pa_cons (pe_callB (k_len_seq K) (by rfl) T.z_len (by decide +kernel) (pa_cons (pv 3) pa_nil)) pa_nil))) (fun _ _ => rfl))))) pa_nil)))))
      (pss_one (ps_ret (pv 4)))))), ?_⟩
    have n1 := hO.n1
    have n2 := hO.n2
    refine ⟨.ref f, rfl, f, b, ls, rfl, hF.mono rm_ex, by omega, fun la H1 hla e1 hL1 => ?_⟩
    have hB1 := hB.mono e1
    have nlx : la ≠ x := hB.ne hla
    refine ⟨(by show 0 ≤ sizeLine; decide), fun o ho => ?_⟩
    have nox : o ≠ x := hB1.ne ho
    have nlo : la ≠ o := ne_of_none hL1 ho
    have hL2 : upd H1 o (.lst []) la = some (.lst (chV ls)) := by rw [upd_ne nlo]; exact hL1
    have ho2 : upd H1 o (.lst []) o = some (.lst (wV [])) := upd_same
    have hB2 : BoxAt (upd H1 o (.lst [])) x := hB1.upd nox
    have e2 : Ex (K96.rm H x) (upd H1 o (.lst [])) := (rm_ex.trans e1).trans (ex_new ho)
    have ho0 : K96.rm H x o = none := fresh_back (rm_ex.trans e1) ho
    generalize upd H1 o (.lst []) = H2 at hL2 ho2 hB2 e2 ⊢
    refine ⟨.ref x, rfl, .int 9, rfl, 9, 1, rfl, rfl, x, 9 + 1, rfl, hB2, by decide, by decide, fun u H3 u0 u1 e3 hB3 => ⟨u, rfl, by omega, by omega, ?_⟩⟩
    have e03 := Ex.box e2 e3
    refine for_it walk_range (fun i σ H' => ∃ y5 y6, σ = [some (.ref x), some (.ref f), some (.int 9), some (.ref la), some (.ref o), y5, y6] ∧ BoxAt H' x ∧ Ex (K96.rm H x) H' ∧ H' la = some (.lst (chV ls)) ∧
        ∃ ws : List (List Nat), H' o = some (.lst (wV ws)) ∧ ws.length = i ∧ (∀ w ∈ ws, w ≠ []) ∧ (∀ w ∈ ws, w.length ≤ 4) ∧ ∀ w ∈ ws, ∀ c ∈ w, ∃ y ∈ ls, y.1 = c)
      ⟨_, _, rfl, hB3, e03, up nlx hL2 e3, [], up nox ho2 e3, rfl, (fun _ h => nomatch h), (fun _ h => nomatch h), fun _ h => nomatch h⟩ (fun _ _ _ _ _ => trivial) ?_ ?_
    · rintro i y σ H4 H4' hi ⟨y5, y6, rfl, hB4, e4, hL4, ws, ho4, hl, hw1, hw2, hw3⟩ ⟨eh, hy⟩
      subst H4'
      have hle : (Str.ofString "").length = 0 := by decide +kernel
      refine ⟨.ref o, rfl, .inl ⟨rfl, _, SqL.of ho4⟩, ⟨_, rfl⟩, .ref x, rfl, x, 4, rfl, hB4, by decide, by decide, fun v H5 v0 v1 e5 hB5 => ⟨1, v, rfl, rfl, 1 + v, rfl, by omega, by omega, fun D hD => ?_⟩⟩
      have nDx : D ≠ x := hB5.ne hD
      have hL5 := up nlx hL4 e5
      have ho5 := up nox ho4 e5
      have e05 := Ex.box e4 e5
      refine lc_it walk_range (fun j H' => BoxAt H' x ∧ Ex (K96.rm H5 x) H' ∧ ∃ cs : List Nat, H' D = some (.lst (cV cs)) ∧ cs.length = j ∧ ∀ c ∈ cs, ∃ y ∈ ls, y.1 = c)
        ⟨hB5.upd nDx, rm_ex.mut (rm_none hD), [], upd_same, rfl, fun _ h => nomatch h⟩ (fun _ _ _ _ => trivial) ?_ ?_
      · rintro j z H6 H6' hj ⟨hB6, e6, cs, hL, hlc, hc⟩ ⟨eh, hz⟩
        subst H6'
        have hL6 := up nlx hL5 e6
        refine ⟨rfl, .ref la, rfl, .ref x, rfl, .ref la, rfl, la, chV ls, rfl, .inl (SqL.of hL6), x, _, rfl, hB6, by rw [chV_len]; omega, by rw [chV_len]; omega, fun g H7 g0 g1 e7 hB7 => ?_⟩
        rw [chV_len] at g1
        obtain ⟨m, rfl⟩ : ∃ m : Nat, g = m := ⟨g.toNat, by omega⟩
        have hm : m < ls.length := by omega
        have gm := chV_at (List.getElem?_eq_getElem hm)
        refine ⟨la, chV ls, m, _, rfl, rfl, SqL.of (up nlx hL6 e7), atI_nat gm, _, up nDx hL e7, ?_, hB7.upd nDx, (Ex.box e6 e7).mut (rm_none hD), cs ++ [ls[m].1], ?_, ?_, mem_snoc hc ⟨_, List.getElem_mem hm, rfl⟩⟩
        · rw [cV_len]
          exact small1000 (by omega)
        · rw [upd_same]
          unfold cV
          rw [List.map_append]
          rfl
        · rw [List.length_append, hlc]
          rfl
      · rintro H6 ⟨hB6, e6, cs, hL, hlc, hc⟩
        have ho6 := up nox ho5 e6
        have nDo : D ≠ o := fun z => by
          rw [z, ho5] at hD
          cases hD
        refine ⟨Str.ofString "", D, (cs.map fun c => [c]).map sx, rfl, rfl, .inl (SqL.of ?_), ?_, ?_⟩
        · rw [cV_map]
          exact hL
        · have h1 := sum_len50 (ws := cs.map fun c => [c]) (fun w hw => by
            obtain ⟨c, _, rfl⟩ := List.mem_map.mp hw
            show 1 ≤ 50
            decide)
          rw [hle]
          rw [List.length_map] at h1
          omega
        · rw [none_eq, join_ones]
          refine ⟨o, wV ws, .str (sx cs), rfl, rfl, ho6, ?_, ?_⟩
          · rw [wV_len]
            exact small1000 (by omega)
          · refine ⟨_, _, rfl, hB6.upd nox, (Ex.box e05 e6).mut ho0, ?_, ws ++ [cs], ?_, ?_, ?_, ?_, ?_⟩
            · rw [upd_ne nlo]
              exact up nlx hL5 e6
            · rw [upd_same]
              unfold wV
              rw [List.map_append]
              rfl
            · rw [List.length_append, hl]
              rfl
            · refine mem_snoc hw1 fun q => ?_
              rw [q] at hlc
              simp only [List.length_nil] at hlc
              omega
            · exact mem_snoc hw2 (by omega)
            · exact mem_snoc hw3 hc
    · rintro σ H4 ⟨y5, y6, rfl, hB4, e4, hL4, ws, ho4, hl, hw1, hw2, hw3⟩
      exact ⟨.ref o, rfl, k o H4 ws e4 hB4 (by rw [rm_ne nox]; exact ho4) ⟨by omega, hw1, hw2, hw3⟩⟩
def sp_law_room : Sp := fun vs H Q _ => ∃ (x f p wa : Addr) (b : Int) (ls : List (Nat × Int)) (ps : List (Nat × Nat × Int)) (ws : List (List Nat)), vs = [.ref x, .ref f, .ref p, .ref wa] ∧ BoxAt H x ∧ FaceAt (rm H x) f b ls ∧ FOk b ls ∧ PairsAt (rm H x) p ps ∧ GOk ps ∧ rm H x wa = some (.lst (wV ws)) ∧ Wds ls ws ∧
  ∀ (M : Int) H', Ex (rm H x) H' → BoxAt H' x → 1 ≤ M → M ≤ 999 → (∀ w ∈ ws, Wd b ls ps w ≤ M) → Q (.int M) H'
theorem ok_law_room (T : Tx K mg) : FnOk P w K mg base CX0 3 T.a_law_room T.d_law_room ["_law_box_here", "_law_face_here", "_law_pairs_here", "_law_words_here"] sp_law_room := by
  have G_law_take : FnOk P w K mg base CX0 1 T.a_law_take T.d_law_take ["_law_box_here", "_law_many"] sp_law_take := ok_law_take T
  have G_law_wide : FnOk P w K mg base CX0 2 T.a_law_wide T.d_law_wide ["_law_face_here", "_law_pairs_here", "_law_text"] sp_law_wide := ok_law_wide T
  refine T.f_law_room.ok sc_law_room (fun vs H Q E h => ?_) (fun cdv A outer s H vs Q E hr h => ?_)
  · obtain ⟨x, f, p, wa, b, ls, ps, ws, rfl, _⟩ := h
    rfl
  · obtain ⟨x, f, p, wa, b, ls, ps, ws, rfl, hB, hF, hO, hP, hG, hwa, hW, k⟩ := h
    refine ⟨_,       (pss_cons (ps_set (i := 4) sc_law_room.nd rfl (.inl rfl) (pe_callB (cr_max rfl) (by rfl) T.z_max (by decide +kernel) (pa_cons (pe_op op_cat (pe_lst (pa_cons pe_int pa_nil)) (pe_lc (own := [("_law_word", 5)]) (g := gName 5) (tt := tYes) rfl sc_law_room.nd (pi_list (pv 3)) (blkOk_by (own := [("_law_word", 5)]) (N := N_law_room) (sc := defScope s_law_room) (by decide +kernel)) (fun _ _ _ _ _ => (pg_name (i := 5) sc_law_room.nd rfl (.inl rfl))) (fun _ _ _ _ _ => pts_nil) (fun _ _ _ _ _ => (pe_call G_law_wide (hr.mono (by decide)) (by rfl) T.g_law_wide T.f_law_wide.kp T.b_law_wide .nil pass0 (pa_cons (pv 1) (pa_cons (pv 2) (pa_cons (pv 5) pa_nil))))))) pa_nil)))
      (pss_one (ps_ret (pe_callB (call_min2 rfl) (by rfl) T.z_min (by decide +kernel) (pa_cons pe_int (pa_cons (pe_op op_add (pv 4) (pe_call G_law_take (hr.mono (by decide)) (by rfl) T.g_law_take T.f_law_take.kp T.b_law_take .nil pass0 (pa_cons (pv 0) (pa_cons (pe_ix ix_list (pe_lst (pa_cons pe_int (pa_cons pe_int (pa_cons pe_int pa_nil)))) (pe_call G_law_take (hr.mono (by decide)) (by rfl) T.g_law_take T.f_law_take.kp T.b_law_take .nil pass0 (pa_cons (pv 0) (pa_cons pe_int pa_nil))) (fun _ _ => rfl)) pa_nil)))) pa_nil)))))), ?_⟩
    have hWO := hW.wok hO
    have few := hW.few
    have hF0 := hF.mono rm_ex
    have hP0 := PairsAt.mono rm_ex hP
    have hw0 : H wa = some (.lst (wV ws)) := rm_ex _ _ hwa
    refine ⟨(by show 1 ≤ sizeLine; decide), fun l hl => ?_⟩
    have e1 : Ex H (upd H l (.lst [.int 1])) := ex_new hl
    have hl1 : upd H l (.lst [.int 1]) l = some (.lst (iV [1])) := upd_same
    generalize upd H l (.lst [.int 1]) = H1 at e1 hl1 ⊢
    refine ⟨.ref wa, rfl, wa, rfl, ⟨_, SqL.of (e1 _ _ hw0)⟩, fun D hD => ?_⟩
    refine lc_it (walk_list (xs := wV ws)) (fun i H' => Ex H1 H' ∧ H' D = some (.lst (iV ((ws.take i).map (Wd b ls ps))))) ⟨ex_new hD, upd_same⟩ (fun i H' _ h => SqL.of (h.1 _ _ (e1 _ _ hw0))) ?_ ?_
    · rintro i y H2 H2' hi ⟨e, hL⟩ ⟨eh, hx⟩
      subst H2'
      rw [wV_len] at hi
      have g := List.getElem?_eq_getElem hi
      rw [wV_at g] at hx
      cases hx
      have hm := List.getElem_mem hi
      have ee := e1.trans e
      refine ⟨rfl, .ref f, rfl, .ref p, rfl, _, rfl, f, p, b, ls, ps, ws[i], rfl, hF0.mono ee, hO, PairsAt.mono ee hP0, hG, fun c hc => ⟨(hWO.ok _ hm c hc).1, (hWO.ok _ hm c hc).2, hWO.small _ hm c hc⟩, hWO.short _ hm, fun H3 e3 => ⟨_, e3 _ _ hL, ?_, (e.trans e3).mut hD, ?_⟩⟩
      · rw [iV_len, List.length_map, List.length_take]
        exact small1000 (by omega)
      · rw [upd_same, take_snoc g, List.map_append, iV_snoc]
        rfl
    · rintro H2 ⟨e, hL⟩
      rw [wV_len, List.take_length] at hL
      refine ⟨l, D, _, _, rfl, rfl, e _ _ hl1, hL, ?_, fun q hq => ?_⟩
      · rw [iV_len, iV_len, List.length_map]
        exact sz1000 (by simp only [List.length_singleton]; omega)
      · have e3 : Ex H2 (upd H2 q (.lst (iV [1] ++ iV (ws.map (Wd b ls ps))))) := ex_new hq
        have hq3 : (upd H2 q (.lst (iV [1] ++ iV (ws.map (Wd b ls ps))))) q = some (.lst (iV (1 :: ws.map (Wd b ls ps)))) := upd_same
        generalize upd H2 q (.lst (iV [1] ++ iV (ws.map (Wd b ls ps)))) = H3 at e3 hq3 ⊢
        refine ⟨q, 1 :: ws.map (Wd b ls ps), rfl, SqL.of hq3, Nat.succ_pos _, fun m hm hmax => ?_⟩
        have m1 : 1 ≤ m := hmax 1 (by simp)
        have mw : ∀ w ∈ ws, Wd b ls ps w ≤ m := fun w hw => hmax _ (List.mem_cons_of_mem _ (List.mem_map.mpr ⟨w, hw, rfl⟩))
        have m2 : m ≤ 432 := by
          rcases List.mem_cons.mp hm with h | h
          · omega
          · obtain ⟨w, hw, rfl⟩ := List.mem_map.mp h
            exact (Wds.wd hO hG (hW.ne w hw) (hW.short w hw) (hW.ltr w hw)).2
        have e03 : Ex H H3 := (e1.trans e).trans e3
        have hB3 := hB.mono e03
        refine ⟨.int m, rfl, .ref x, rfl, (by show 3 ≤ sizeLine; decide), fun l3 hl3 => ?_⟩
        have nlx : l3 ≠ x := hB3.ne hl3
        have e4 : Ex H3 (upd H3 l3 (.lst [.int 1, .int 60, .int 300])) := ex_new hl3
        have hl4 : (upd H3 l3 (.lst [.int 1, .int 60, .int 300])) l3 = some (.lst (iV [1, 60, 300])) := upd_same
        generalize upd H3 l3 (.lst [.int 1, .int 60, .int 300]) = H4 at e4 hl4 ⊢
        have hB4 := hB3.mono e4
        refine ⟨.ref x, rfl, x, 3, rfl, hB4, by decide, by decide, fun u H5 u0 u1 e5 hB5 => ?_⟩
        have hl5 := up nlx hl4 e5
        obtain ⟨j, rfl⟩ : ∃ j : Nat, u = j := ⟨u.toNat, by omega⟩
        have hj : j < ([1, 60, 300] : List Int).length := by
          show j < 3
          omega
        have gj : (iV [1, 60, 300])[j]? = some (.int ([1, 60, 300] : List Int)[j]) := by
          unfold iV
          rw [List.getElem?_map, List.getElem?_eq_getElem hj]
          rfl
        have hv : ∀ y ∈ ([1, 60, 300] : List Int), 0 < y ∧ y ≤ 300 := by decide
        obtain ⟨v1, v2⟩ := hv _ (List.getElem_mem hj)
        generalize ([1, 60, 300] : List Int)[j] = z at gj v1 v2
        have e05 : Ex (K96.rm H x) H5 := Ex.box (rm_ex.trans (e03.trans e4)) e5
        refine ⟨l3, iV [1, 60, 300], j, .int z, rfl, rfl, SqL.of hl5, atI_nat gj, x, z, rfl, hB5, v1, by omega, fun g H6 g0 g1 e6 hB6 => ⟨m, g, rfl, rfl, 999, m + g, rfl, ?_⟩⟩
        rw [if_pos (by omega)]
        exact k (m + g) H6 (Ex.box e05 e6) hB6 (by omega) (by omega) fun w hw => by
          have := mw w hw
          omega
end
end K96
namespace K96
open PySem PySem.Spec PyProof.Rows L2 Evl TL
/-! ### what the law asks, plainly -/
theorem Br.len {F : Nat → Nat → Prop} : ∀ {js : List Nat} {i k : Nat}, Br F i js k → i + js.length ≤ k
  | [], _, _, h => Nat.le_of_eq h
  | j :: r, i, k, ⟨h1, _, h2⟩ => by
    have := Br.len h2
    simp only [List.length_cons]
    omega
theorem sum_lenN (m : Nat) : ∀ {ws : List (List Nat)}, (∀ w ∈ ws, w.length ≤ m) → ((ws.map sx).map (·.length)).sum ≤ ws.length * m
  | [], _ => by simp
  | w :: r, h => by
    have a := sum_lenN m (ws := r) (fun x hx => h x (List.mem_cons_of_mem _ hx))
    have b := h w (by simp)
    simp only [List.map_cons, List.sum_cons, List.length_cons, sx_len] at a ⊢
    rw [Nat.add_mul, Nat.one_mul]
    omega
theorem two_of_blank {ls : List (Nat × Int)} {qs : List (List Nat)} (h : WOk ls qs) (hb : 32 ∈ jn qs) : 2 ≤ qs.length := by
  match qs, h, hb with
  | [], _, hb => cases hb
  | [q], h, hb => exact absurd rfl (h.ok q (by simp) 32 hb).1
  | _ :: _ :: _, _, _ => simp
section
variable {b : Int} {ls : List (Nat × Int)} {ps : List (Nat × Nat × Int)} {ws : List (List Nat)} {M : Int}
/-- what the law looks at in a breaking -/
structure Lok (b : Int) (ls : List (Nat × Int)) (ps : List (Nat × Nat × Int)) (ws : List (List Nat)) (M : Int) (L : List (List Nat)) : Prop where
  text : jn L = jn ws
  few : L.length ≤ 12
  lines : ∀ t ∈ L, tok ls t ∧ 0 ≤ Wd b ls ps t ∧ Wd b ls ps t ≤ M ∧ ∃ qs, t = jn qs ∧ WOk ls qs
theorem Pm.lok (h : Pm b ls ps ws M) {js : List Nat} (hb : Br (Fit (Cst b ls ps ws M)) 0 js ws.length) : Lok b ls ps ws M (lns ws 0 js) := by
  refine ⟨lns_text hb, ?_, fun t ht => ?_⟩
  · rw [lns_len]
    have := hb.len
    have := h.hW.few
    omega
  · obtain ⟨i, j, _, h2, h3, h4, rfl⟩ := lns_mem hb ht
    exact ⟨h.line i h3, h.ln_nn h2 h3, (fit_iff _ _ _).mp h4, seg ws i j, rfl, h.hW.seg h3⟩
theorem shows_yes : Shows (Cst b ls ps ws M) ws.length (Prs b ls ps ws M ws.length) := by
  refine ⟨P_last _ _, fun i hi j x h1 h2 hx => ?_⟩
  have := P_le h1 h2 hx
  show ¬ P (Cst b ls ps ws M) ws.length j + x < P (Cst b ls ps ws M) ws.length i
  omega
theorem prs_ne : Prs b ls ps ws M ws.length = Pr b ls ps ws M 0 :: (Prs b ls ps ws M ws.length).tail := by
  have h : (Prs b ls ps ws M ws.length).length = ws.length + 1 := prices_len _ _ _
  show _ = (Prs b ls ps ws M ws.length).getD 0 0 :: _
  cases e : Prs b ls ps ws M ws.length with
  | nil => rw [e] at h; simp at h
  | cons x r => rfl
theorem bump_len : ((Pr b ls ps ws M 0 + 1) :: (Prs b ls ps ws M ws.length).tail).length = ws.length + 1 := by
  have h : (Prs b ls ps ws M ws.length).length = ws.length + 1 := prices_len _ _ _
  rw [List.length_cons, List.length_tail, h]
  omega
theorem bump_at (j : Nat) : ((Pr b ls ps ws M 0 + 1) :: (Prs b ls ps ws M ws.length).tail).getD (j + 1) 0 = Pr b ls ps ws M (j + 1) := by
  show _ = (Prs b ls ps ws M ws.length).getD (j + 1) 0
  conv => rhs; rw [prs_ne]
  rfl
theorem shows_no (h : Pm b ls ps ws M) : ¬ Shows (Cst b ls ps ws M) ws.length ((Pr b ls ps ws M 0 + 1) :: (Prs b ls ps ws M ws.length).tail) := by
  rintro ⟨h0, h1⟩
  by_cases hn : ws.length = 0
  · have hp := P_last (Cst b ls ps ws M) ws.length
    rw [hn] at h0 hp
    have e : P (Cst b ls ps ws M) ws.length 0 + 1 = 0 := h0
    rw [hn] at e
    omega
  · obtain ⟨j, x, a1, a2, a3, a4⟩ := P_eq (C := Cst b ls ps ws M) (n := ws.length) (i := 0) (by omega) (h.step (by omega))
    have q := h1 0 (by omega) j x a1 a2 a3
    obtain ⟨m, rfl⟩ : ∃ m, j = m + 1 := ⟨j - 1, by omega⟩
    rw [bump_at] at q
    have e : ((Pr b ls ps ws M 0 + 1) :: (Prs b ls ps ws M ws.length).tail).getD 0 0 = Pr b ls ps ws M 0 + 1 := rfl
    rw [e] at q
    show False
    have a4' : Pr b ls ps ws M 0 = x + Pr b ls ps ws M (m + 1) := a4
    omega
theorem even_js {L : List (List Nat)} (h : Even (Wd b ls ps) ws M ws.length L) : ∃ js, Br (Fit (Cst b ls ps ws M)) 0 js ws.length ∧ L = lns ws 0 js ∧ Pr b ls ps ws M 0 = (L.dropLast.map fun t => (M - Wd b ls ps t) * (M - Wd b ls ps t)).sum := by
  obtain ⟨js, hb, rfl, hp⟩ := h
  refine ⟨js, hb, rfl, ?_⟩
  rw [← bc_sum _ _ _ hb]
  have := P_last (Cst b ls ps ws M) ws.length
  show P (Cst b ls ps ws M) ws.length 0 = _
  rw [hp]
  have e : P (C (Wd b ls ps) ws M) ws.length ws.length = 0 := this
  omega
theorem full_js (hm : Pm b ls ps ws M) {L E : List (List Nat)} (h : Full (Wd b ls ps) ws M ws.length L) (he : Even (Wd b ls ps) ws M ws.length E) :
    ∃ js, Br (Fit (Cst b ls ps ws M)) 0 js ws.length ∧ L = lns ws 0 js ∧ Pr b ls ps ws M 0 ≤ (L.dropLast.map fun t => (M - Wd b ls ps t) * (M - Wd b ls ps t)).sum ∧ L.length ≤ E.length := by
  obtain ⟨js, hb, rfl, hf⟩ := full_end h
  obtain ⟨bs, hb2, rfl, _⟩ := he
  refine ⟨js, hb, rfl, ?_, ?_⟩
  · rw [← bc_sum _ _ _ hb]
    exact P_low hb
  · rw [lns_len, lns_len]
    exact hf (fun i i' j k h1 h2 h3 h4 => hm.mono i i' j k h1 h2 h3 h4) bs hb2
theorem spread_room {t : List Nat} {k : Nat} (hk : 0 < k) {x : Int} (e : x = Wd b ls ps t - b * (k : Int)) : x + (blanks b ((M - Wd b ls ps t) / (k : Int)) ((M - Wd b ls ps t) % (k : Int)) k).sum = M := by
  rw [spread_sum hk, e, Int.mul_comm b]
  omega
theorem blanks_near {f each left : Int} {k : Nat} {x y : Int} (hx : x ∈ blanks f each left k) (hy : y ∈ blanks f each left k) : ¬ x - y > 1 := by
  rcases blanks_all hx with h | h <;> rcases blanks_all hy with g | g <;> omega
end
end K96
namespace K96
open PySem PySem.Spec PyProof.Rows L2 Evl TL
theorem sqL_ex {K : PySem.W.Frag} {H H' : Hp} {a : Addr} {xs : List V} (h : SqL K H a xs) (e : Ex H H') : SqL K H' a xs :=
  h.elim (fun h => .inl (h.elim (fun h => .inl (e _ _ h)) fun ⟨o, h⟩ => .inr ⟨o, e _ _ h⟩)) fun h => .inr h
theorem noPart {σ : L2.St} {H : Hp} {Q : Option Int → Hp → Prop} (h : Q none H) : tNoPart σ H Q := h
theorem cat_bump {K : PySem.W.Frag} {H : Hp} {a b : Addr} {xs ys : List V} {Q : VK} (ha : H a = some (.tup xs)) (hb : H b = some (.tup ys)) (hx : xs ≠ []) (hz : xs.length + ys.length ≤ sizeLine)
    (q : ∀ p H', Ex H H' → H' p = some (.tup (xs ++ ys)) → Q (.ref p) H') : rCatA K (.ref a) (.ref b) H Q :=
  ⟨a, b, xs, ys, rfl, rfl, SqT.of ha, SqT.of hb, hz, fun e => absurd e hx, fun _ e => q a H (Ex.refl _) (by rw [e, List.append_nil]; exact ha), fun _ _ p hp => q p _ (ex_new hp) upd_same⟩
theorem sl_bump {K : PySem.W.Frag} {H : Hp} {a : Addr} {x : V} {xs : List V} {Q : VK} (ha : H a = some (.tup (x :: xs))) (q : ∀ p H', Ex H H' → H' p = some (.tup xs) → Q (.ref p) H') : rSlA K (.ref a) (some 1) none H Q := by
  have e1 : HT.sIx (x :: xs).length 0 (some 1) = 1 := by
    rw [show HT.sIx (x :: xs).length 0 (some 1) = min 1 (x :: xs).length from HT.sIx_nat (x :: xs).length 0 1, List.length_cons]
    omega
  refine ⟨a, x :: xs, rfl, SqT.of ha, fun h => ?_, fun _ p hp => q p _ (ex_new hp) ?_⟩
  · rw [e1] at h
    exact absurd h.1 (by decide)
  · rw [upd_same]
    unfold cutV
    rw [e1, HT.sIx_none]
    show some (HO.tup (List.take ((x :: xs).length - 1) xs)) = _
    rw [List.length_cons, Nat.add_sub_cancel, List.take_length]
section
variable {P : Program} {w : World} {K : PySem.W.Frag} {mg : Str → Option Value} {base : Heap}
def sp_law (K : PySem.W.Frag) : Sp := fun vs H Q _ => ∃ (a : Addr) (ns : List Int), vs = [.ref a] ∧ SqL K H a (ns.map V.int) ∧ ∀ H', Q (.bl true) H'
theorem ok_law (T : Tx K mg) {al : Addr} {dl : FuncData} (Fl : Fun K "law" "law" s_law al dl) : FnOk P w K mg base CX0 10 al dl ["_law_script"] (sp_law K) := by
  have G_law_box : FnOk P w K mg base CX0 1 T.a_law_box T.d_law_box ["_law_script", "_law_k"] (sp_law_box K) := ok_law_box T
  have G_law_face : FnOk P w K mg base CX0 2 T.a_law_face T.d_law_face ["_law_box_here", "_law_least", "_law_most"] sp_law_face := ok_law_face T
  have G_law_pairs : FnOk P w K mg base CX0 3 T.a_law_pairs T.d_law_pairs ["_law_box_here", "_law_face_here"] sp_law_pairs := ok_law_pairs T
  have G_law_words : FnOk P w K mg base CX0 2 T.a_law_words T.d_law_words ["_law_box_here", "_law_face_here", "_law_most"] sp_law_words := ok_law_words T
  have G_law_room : FnOk P w K mg base CX0 3 T.a_law_room T.d_law_room ["_law_box_here", "_law_face_here", "_law_pairs_here", "_law_words_here"] sp_law_room := ok_law_room T
  have G_law_cost : FnOk P w K mg base CX0 6 T.a_law_cost T.d_law_cost ["_law_face_here", "_law_pairs_here", "_law_lines", "_law_number"] sp_law_cost := ok_law_cost T
  have G_wide : FnOk P w K mg base CX0 5 T.a_wide T.d_wide ["face", "pairs", "text"] sp_wide := ok_wide T
  have G_filled : FnOk P w K mg base CX0 7 T.a_filled T.d_filled ["face", "pairs", "text", "number"] sp_filled := ok_filled T
  have G_evened : FnOk P w K mg base CX0 8 T.a_evened T.d_evened ["face", "pairs", "text", "number"] sp_evened := ok_evened T
  have G_cost_of : FnOk P w K mg base CX0 9 T.a_cost_of T.d_cost_of ["face", "pairs", "text", "number"] sp_cost_of := ok_cost_of T
  have G_shows_even : FnOk P w K mg base CX0 8 T.a_shows_even T.d_shows_even ["face", "pairs", "text", "number"] sp_shows_even := ok_shows_even T
  have G_is_shown : FnOk P w K mg base CX0 7 T.a_is_shown T.d_is_shown ["face", "pairs", "text", "number", "thing"] sp_is_shown := ok_is_shown T
  have G_spread : FnOk P w K mg base CX0 6 T.a_spread T.d_spread ["face", "pairs", "text", "number"] sp_spread := ok_spread T
  refine Fl.ok sc_law (fun vs H Q E h => ?_) (fun cdv A outer s H vs Q E hr h => ?_)
  · obtain ⟨a, ns, rfl, _⟩ := h
    rfl
  · obtain ⟨a, ns, rfl, ha, k⟩ := h
    refine ⟨_,       (pss_cons (ps_for PassesOwn.never rfl (pi_range1 (by rfl) T.z_range (pa_cons (pe_callB (call_max2 rfl) (by rfl) T.z_max (by decide +kernel) (pa_cons pe_int (pa_cons (pe_callB (call_min2 rfl) (by rfl) T.z_min (by decide +kernel) (pa_cons (pe_callB call_len_seq (by rfl) T.z_len (by decide +kernel) (pa_cons (pv 0) pa_nil)) (pa_cons pe_int pa_nil))) pa_nil))) pa_nil)) (pg_name (i := 1) sc_law.nd rfl (.inl rfl)) 
        (pss_cons (ps_set (i := 2) sc_law.nd rfl (.inl rfl) (pe_call G_law_box (hr.mono (by decide)) (by rfl) T.g_law_box T.f_law_box.kp T.b_law_box .nil pass0 (pa_cons (pv 0) (pa_cons (pv 1) pa_nil))))
        (pss_cons (ps_set (i := 3) sc_law.nd rfl (.inr rfl) (pe_call G_law_face (hr.mono (by decide)) (by rfl) T.g_law_face T.f_law_face.kp T.b_law_face .nil pass0 (pa_cons (pv 2) (pa_cons pe_int (pa_cons pe_int pa_nil)))))
        (pss_cons (ps_set (i := 4) sc_law.nd rfl (.inr rfl) (pe_call G_law_pairs (hr.mono (by decide)) (by rfl) T.g_law_pairs T.f_law_pairs.kp T.b_law_pairs .nil pass0 (pa_cons (pv 2) (pa_cons (pv 3) pa_nil))))
        (pss_one (ps_for PassesOwn.never rfl (pi_range1 (by rfl) T.z_range (pa_cons pe_int pa_nil)) (pg_name (i := 5) sc_law.nd rfl (.inl rfl)) 
          (pss_cons (ps_set (i := 6) sc_law.nd rfl (.inl rfl) (pe_call G_law_words (hr.mono (by decide)) (by rfl) T.g_law_words T.f_law_words.kp T.b_law_words .nil pass0 (pa_cons (pv 2) (pa_cons (pv 3) (pa_cons pe_int pa_nil)))))
          (pss_cons (ps_set (i := 7) sc_law.nd rfl (.inr rfl) (pe_call G_law_room (hr.mono (by decide)) (by rfl) T.g_law_room T.f_law_room.kp T.b_law_room .nil pass0 (pa_cons (pv 2) (pa_cons (pv 3) (pa_cons (pv 4) (pa_cons (pv 6) pa_nil))))))
          (pss_cons (ps_set (i := 8) sc_law.nd rfl (.inl rfl) (pe_join pe_str (pv 6)))
          (pss_cons (ps_par (i := 9) (j := 10) (by rfl) sc_law.nd rfl rfl (by decide) rfl rfl (pa_cons (pe_call G_evened (hr.mono (by decide)) (by rfl) T.g_evened T.f_evened.kp T.b_evened .nil pass0 (pa_cons (pv 3) (pa_cons (pv 4) (pa_cons (pv 8) (pa_cons (pv 7) pa_nil))))) (pa_cons (pe_call G_filled (hr.mono (by decide)) (by rfl) T.g_filled T.f_filled.kp T.b_filled .nil pass0 (pa_cons (pv 3) (pa_cons (pv 4) (pa_cons (pv 8) (pa_cons (pv 7) pa_nil))))) pa_nil)) (by rfl))
          (pss_cons (ps_for PassesOwn.never rfl (pi_list (pe_lst (pa_cons (pv 9) (pa_cons (pv 10) pa_nil)))) (pg_name (i := 11) sc_law.nd rfl (.inl rfl)) 
            (pss_cons (ps_setLc (i := 12) (own := [("_law_line", 15)]) (g := gName 15)  rfl sc_law.nd rfl rfl (sw_true rfl rfl rfl (by decide +kernel)) (pi_tup (pv 11)) (blkOk_by (own := [("_law_line", 15)]) (N := N_law) (sc := defScope s_law) (by decide +kernel)) (fun _ _ _ _ _ => (pg_name (i := 15) sc_law.nd rfl (.inl rfl))) (fun _ _ _ _ _ => (pts_one (pt_cmpR op_gt (pe_call G_wide (hr.mono (by decide)) (by rfl) T.g_wide T.f_wide.kp T.b_wide .nil pass0 (pa_cons (pv 3) (pa_cons (pv 4) (pa_cons (pv 15) pa_nil)))) (pv 7) (nomark _)))) (fun _ _ _ _ _ => (pv 15)))
            (pss_one (ps_if (PW.pt (pw_or (pt_cmpR op_ne (pe_join pe_str (pv 11)) (pv 8) (nomark _)) (pw_or1 (pt_cmpR (op_neD hr.units) (pv 12) (pe_lst pa_nil) (nomark _))))) 
              (pss_one (ps_ret pe_bl)) pss_nil))))
          (pss_cons (ps_set (i := 13) sc_law.nd rfl (.inl rfl) (pe_call G_cost_of (hr.mono (by decide)) (by rfl) T.g_cost_of T.f_cost_of.kp T.b_cost_of .nil pass0 (pa_cons (pv 3) (pa_cons (pv 4) (pa_cons (pv 8) (pa_cons (pv 7) pa_nil))))))
          (pss_cons (ps_if (PW.pt (pw_or (pt_cmpR op_lt (pe_callB call_len_seq (by rfl) T.z_len (by decide +kernel) (pa_cons (pv 9) pa_nil)) (pe_callB call_len_seq (by rfl) T.z_len (by decide +kernel) (pa_cons (pv 10) pa_nil)) (nomark _)) (pw_or1 (pt_cmpR op_ne (pv 13) (pe_call G_law_cost (hr.mono (by decide)) (by rfl) T.g_law_cost T.f_law_cost.kp T.b_law_cost .nil pass0 (pa_cons (pv 3) (pa_cons (pv 4) (pa_cons (pv 9) (pa_cons (pv 7) pa_nil))))) (nomark _))))) 
            (pss_one (ps_ret pe_bl)) pss_nil)
          (pss_cons (ps_if (pt_cmpR op_gt (pv 13) (pe_call G_law_cost (hr.mono (by decide)) (by rfl) T.g_law_cost T.f_law_cost.kp T.b_law_cost .nil pass0 (pa_cons (pv 3) (pa_cons (pv 4) (pa_cons (pv 10) (pa_cons (pv 7) pa_nil))))) (nomark _)) 
            (pss_one (ps_ret pe_bl)) pss_nil)
          (pss_cons (ps_set (i := 14) sc_law.nd rfl (.inl rfl) (pe_call G_shows_even (hr.mono (by decide)) (by rfl) T.g_shows_even T.f_shows_even.kp T.b_shows_even .nil pass0 (pa_cons (pv 3) (pa_cons (pv 4) (pa_cons (pv 8) (pa_cons (pv 7) pa_nil))))))
          (pss_cons (ps_if (PW.pt (pw_or (pt_cmpR op_ne (pe_ix ix_tup (pv 14) pe_int (fun _ _ => rfl)) (pv 13) (nomark _)) (pw_or1 (pt_cmpR op_notBl (pe_call G_is_shown (hr.mono (by decide)) (by rfl) T.g_is_shown T.f_is_shown.kp T.b_is_shown .nil pass0 (pa_cons (pv 3) (pa_cons (pv 4) (pa_cons (pv 8) (pa_cons (pv 7) (pa_cons (pv 14) pa_nil)))))) pe_bl (nomark _))))) 
            (pss_one (ps_ret pe_bl)) pss_nil)
          (pss_cons (ps_if (pt_cmpR op_isBl (pe_call G_is_shown (hr.mono (by decide)) (by rfl) T.g_is_shown T.f_is_shown.kp T.b_is_shown .nil pass0 (pa_cons (pv 3) (pa_cons (pv 4) (pa_cons (pv 8) (pa_cons (pv 7) (pa_cons (pe_op op_catA (pe_tup (pa_cons (pe_op op_add (pe_ix ix_tup (pv 14) pe_int (fun _ _ => rfl)) pe_int) pa_nil)) (pe_slice sl_tupA (pv 14) (po_some pe_int) po_none)) pa_nil)))))) pe_bl (nomark _)) 
            (pss_one (ps_ret pe_bl)) pss_nil)
          (pss_one (ps_for PassesOwn.never rfl (pi_tup (pv 9)) (pg_name (i := 15) sc_law.nd rfl (.inl rfl)) 
            (pss_one (ps_if (pt_cmpR op_in_sign pe_str (pv 15) (by rfl)) 
              (pss_cons (ps_set (i := 16) sc_law.nd rfl (.inl rfl) (pe_call G_spread (hr.mono (by decide)) (by rfl) T.g_spread T.f_spread.kp T.b_spread .nil pass0 (pa_cons (pv 3) (pa_cons (pv 4) (pa_cons (pv 15) (pa_cons (pv 7) pa_nil))))))
              (pss_cons (ps_set (i := 17) sc_law.nd rfl (.inl rfl) (pe_op op_sub (pe_call G_wide (hr.mono (by decide)) (by rfl) T.g_wide T.f_wide.kp T.b_wide .nil pass0 (pa_cons (pv 3) (pa_cons (pv 4) (pa_cons (pv 15) pa_nil)))) (pe_op op_mul (pe_ix ix_tup (pv 3) pe_int (fun _ _ => rfl)) (pe_callB call_len_seq (by rfl) T.z_len (by decide +kernel) (pa_cons (pv 16) pa_nil)))))
              (pss_one (ps_if (PW.pt (pw_or (pt_cmpR op_ne (pe_op op_add (pv 17) (pe_callB (sumT rfl) (by rfl) T.z_sum (by decide +kernel) (pa_cons (pv 16) pa_nil))) (pv 7) (nomark _)) (pw_or1 (pt_cmpR op_gt (pe_op op_sub (pe_callB (maxT rfl hr.units) (by rfl) T.z_max (by decide +kernel) (pa_cons (pv 16) pa_nil)) (pe_callB (minT rfl hr.units) (by rfl) T.z_min (by decide +kernel) (pa_cons (pv 16) pa_nil))) pe_int (nomark _))))) 
                (pss_one (ps_ret pe_bl)) pss_nil)))) pss_nil)))))))))))))))))))))
      (pss_one (ps_ret pe_bl))), ?_⟩
    refine ⟨.ref a, rfl, a, _, rfl, .inl ha, _, 3, rfl, 1, _, rfl, _, rfl, ?_, ?_, ?_⟩
    · split <;> omega
    · split
      · split <;> omega
      · omega
    obtain ⟨n, hn⟩ : ∃ n : Int, n = (if (if (3 : Int) < ((ns.map V.int).length : Int) then (3 : Int) else ((ns.map V.int).length : Int)) > 1 then (if (3 : Int) < ((ns.map V.int).length : Int) then (3 : Int) else ((ns.map V.int).length : Int)) else 1) := ⟨_, rfl⟩
    have n3 : n.toNat ≤ 3 := by
      rw [hn]
      split
      · split <;> omega
      · omega
    rw [← hn]
    clear hn
    refine for_it walk_range (fun i σ H' => ∃ y1 y2 y3 y4 y5 y6 y7 y8 y9 y10 y11 y12 y13 y14 y15 y16 y17, σ = [some (.ref a), y1, y2, y3, y4, y5, y6, y7, y8, y9, y10, y11, y12, y13, y14, y15, y16, y17] ∧ Ex H H')
      ⟨_, _, _, _, _, _, _, _, _, _, _, _, _, _, _, _, _, rfl, Ex.refl _⟩ (fun _ _ _ _ _ => trivial) ?_ ?_
    · rintro i z σ H0 H0' hi ⟨y1, y2, y3, y4, y5, y6, y7, y8, y9, y10, y11, y12, y13, y14, y15, y16, y17, rfl, e0⟩ ⟨eh, hz⟩
      subst H0'
      have ez : z = .int (i : Int) := by
        rw [hz]
        show V.int (0 + (i : Int)) = _
        rw [Int.zero_add]
      subst ez
      -- box, face, pairs
      refine ⟨.ref a, rfl, .int (i : Int), rfl, a, ns, i, rfl, sqL_ex ha e0, by omega, fun x H1 hx e1 hB1 => ?_⟩
      have hx0 : H x = none := fresh_back e0 hx
      have e01 := e0.trans e1
      refine ⟨.ref x, rfl, x, rfl, hB1, fun f H2 b ls e2 hB2 hF2 hO => ?_⟩
      have e02 : Ex H H2 := (ex_rm e01 hx0).trans e2
      refine ⟨.ref x, rfl, .ref f, rfl, x, f, b, ls, rfl, hB2, hF2, hO, fun p H3 ps e3 hB3 hP3 hG => ?_⟩
      have e03 : Ex H H3 := (ex_rm e02 hx0).trans e3
      have hF3 : FaceAt (K96.rm H3 x) f b ls := FaceAt.rm hB3 (hF2.mono e3)
      -- three turns
      refine ⟨_, rfl, by decide, by decide, ?_⟩
      refine for_it walk_range (fun j σ H' => ∃ y5 y6 y7 y8 y9 y10 y11 y12 y13 y14 y15 y16 y17, σ = [some (.ref a), some (.int (i : Int)), some (.ref x), some (.ref f), some (.ref p), y5, y6, y7, y8, y9, y10, y11, y12, y13, y14, y15, y16, y17] ∧ Ex H H' ∧ BoxAt H' x ∧ FaceAt (K96.rm H' x) f b ls ∧ PairsAt (K96.rm H' x) p ps)
        ⟨_, _, _, _, _, _, _, _, _, _, _, _, _, rfl, e03, hB3, hF3, hP3⟩ (fun _ _ _ _ _ => trivial) ?_ ?_
      · rintro j z σ H4 H4' hj ⟨y5, y6, y7, y8, y9, y10, y11, y12, y13, y14, y15, y16, y17, rfl, e04, hB4, hF4, hP4⟩ ⟨eh, hz⟩
        subst H4'
        clear hz
        refine ⟨.ref x, rfl, .ref f, rfl, x, f, b, ls, rfl, hB4, hF4, hO, fun wa H5 ws e5 hB5 hwa hW => ?_⟩
        have e05 : Ex H H5 := (ex_rm e04 hx0).trans e5
        have hF5 : FaceAt (K96.rm H5 x) f b ls := FaceAt.rm hB5 (hF4.mono e5)
        have hP5 : PairsAt (K96.rm H5 x) p ps := PairsAt.rm hB5 (PairsAt.mono e5 hP4)
        refine ⟨.ref x, rfl, .ref f, rfl, .ref p, rfl, .ref wa, rfl, x, f, p, wa, b, ls, ps, ws, rfl, hB5, hF5, hO, hP5, hG, hwa, hW, fun M H6 e6 hB6 m1 m2 hfit => ?_⟩
        have e06 : Ex H H6 := (ex_rm e05 hx0).trans e6
        have hF : FaceAt H6 f b ls := hF5.mono e6
        have hP : PairsAt H6 p ps := PairsAt.mono e6 hP5
        have hwa6 : H6 wa = some (.lst (wV ws)) := e6 _ _ hwa
        have hWO := hW.wok hO
        have few := hWO.few
        have b1 := hO.b1
        have hM : Pm b ls ps ws M := ⟨hWO, by omega, fun w hw => by
          have := (Wds.wd hO hG (hW.ne w hw) (hW.short w hw) (hW.ltr w hw)).1
          omega, hfit, m1, m2⟩
        clear hF5 hP5 hwa hB5 hF4 hP4 hB4
        -- the text
        refine ⟨⟨_, rfl⟩, .ref wa, rfl, Str.ofString " ", wa, ws.map sx, rfl, rfl, .inl (SqL.of ?_), ?_, ?_⟩
        · rw [wV_map]
          exact hwa6
        · have h1 := sum_len hWO
          have h2 : (Str.ofString " ").length = 1 := by decide +kernel
          rw [h2, List.length_map]
          omega
        rw [blk_eq, join_sx]
        -- even, full
        refine ⟨_, rfl, _, rfl, _, rfl, _, rfl, f, p, b, ls, ps, ws, M, rfl, hF, hP, hM, fun EL hE el H7 hel e7 hE7 => ?_⟩
        refine ⟨_, rfl, _, rfl, _, rfl, _, rfl, f, p, b, ls, ps, ws, M, rfl, hF.mono e7, PairsAt.mono e7 hP, hM, fun FL hFl fl H8 hfl e8 hL8 => ?_⟩
        have e68 := e7.trans e8
        have hE8 := e8 _ _ hE7
        obtain ⟨je, be, ee, pe⟩ := even_js hE
        obtain ⟨jf, bf, ef, pf, lf⟩ := full_js hM hFl hE
        have okE : Lok b ls ps ws M EL := by rw [ee]; exact hM.lok be
        have okF : Lok b ls ps ws M FL := by rw [ef]; exact hM.lok bf
        have hF8 := hF.mono e68
        have hP8 := PairsAt.mono e68 hP
        refine ⟨_, _, rfl, .ref el, rfl, .ref fl, rfl, (by show 2 ≤ sizeLine; decide), fun D hD => ?_⟩
        have e9 : Ex H8 (upd H8 D (.lst [.ref el, .ref fl])) := ex_new hD
        have hD9 : (upd H8 D (.lst [.ref el, .ref fl])) D = some (.lst [.ref el, .ref fl]) := upd_same
        generalize upd H8 D (.lst [.ref el, .ref fl]) = H9 at e9 hD9 ⊢
        refine ⟨D, rfl, ⟨_, SqL.of hD9⟩, ?_⟩
        refine for_it (walk_list (xs := [.ref el, .ref fl])) (fun i' σ H' => ∃ y11 y12 y15, σ = [some (.ref a), some (.int (i : Int)), some (.ref x), some (.ref f), some (.ref p), some z, some (.ref wa), some (.int M), some (.str (sx (jn ws))), some (.ref el), some (.ref fl), y11, y12, y13, y14, y15, y16, y17] ∧ Ex H9 H')
          ⟨_, _, _, rfl, Ex.refl _⟩ (fun i' σ H' _ ⟨_, _, _, _, e⟩ => SqL.of (e _ _ hD9)) ?_ ?_
        · rintro i' q σ H10 H10' hi' ⟨y11, y12, y15, rfl, e10⟩ ⟨eh, hq⟩
          subst H10'
          have hl : ∃ l LL, q = .ref l ∧ Lok b ls ps ws M LL ∧ H8 l = some (.tup (wV LL)) := by
            match i', hq with
            | 0, h => cases h; exact ⟨el, EL, rfl, okE, hE8⟩
            | 1, h => cases h; exact ⟨fl, FL, rfl, okF, hL8⟩
            | i + 2, h => cases h
          obtain ⟨l, LL, rfl, okL, hl8⟩ := hl
          have e810 := e9.trans e10
          have hl10 := e810 _ _ hl8
          refine ⟨.ref l, rfl, l, rfl, ⟨_, SqT.of hl10⟩, fun D2 hD2 => ?_⟩
          refine lc_it (walk_tup (xs := wV LL)) (fun m H' => Ex H10 H' ∧ H' D2 = some (.lst [])) ⟨ex_new hD2, upd_same⟩ (fun m H' _ h => SqT.of (h.1 _ _ hl10)) ?_ ?_
          · rintro m t H11 H11' hm ⟨e11, hL⟩ ⟨eh, ht⟩
            subst H11'
            rw [wV_len] at hm
            have g := List.getElem?_eq_getElem hm
            rw [wV_at g] at ht
            cases ht
            obtain ⟨t1, t2, t3, _⟩ := okL.lines _ (List.getElem_mem hm)
            have e811 := e810.trans e11
            refine ⟨rfl, ?_⟩
            refine ⟨_, rfl, _, rfl, _, rfl, f, p, b, ls, ps, LL[m], rfl, hF8.mono e811, PairsAt.mono e811 hP8, t1, fun H12 e12 => ⟨_, rfl, _, _, rfl, rfl, _, rfl, ?_⟩⟩
            rw [decide_eq_false (by omega)]
            exact iteF ⟨e11.trans e12, e12 _ _ hL⟩
          · rintro H11 ⟨e11, hL⟩
            have hl11 := e11 _ _ hl10
            refine ⟨⟨_, rfl⟩, .ref l, rfl, Str.ofString " ", l, LL.map sx, rfl, rfl, .inr (SqT.of ?_), ?_, _, rfl, ?_⟩
            · rw [wV_map]
              exact hl11
            · have h1 := sum_lenN 1000 (ws := LL) (fun w hw => (okL.lines w hw).1.2)
              have h2 : (Str.ofString " ").length = 1 := by decide +kernel
              have h3 := okL.few
              rw [h2, List.length_map]
              omega
            rw [blk_eq, join_sx, okL.text]
            refine ⟨rfl, _, rfl, ?_⟩
            rw [decide_eq_true rfl]
            refine iteF ⟨.ref D2, rfl, Nat.zero_le _, fun D3 hD3 => ?_⟩
            have hL3 : (upd H11 D3 (.lst [])) D2 = some (.lst []) := by rw [upd_ne (ne_of_none hL hD3)]; exact hL
            refine ⟨.list [], .list [], .lst (SqL.of hL3) .nil, .lst (SqL.of upd_same) .nil, nil_shaped, nil_shaped, _, rfl, ?_⟩
            rw [show (!PyData.eqv (.list []) (.list [])) = false by decide +kernel]
            exact iteF ⟨_, _, _, rfl, (e10.trans e11).trans (ex_new hD3)⟩
        · rintro σ H10 ⟨y11, y12, y15, rfl, e10⟩
          have e610 := e68.trans (e9.trans e10)
          have hE10 := (e9.trans e10) _ _ hE8
          have hL10 := (e9.trans e10) _ _ hL8
          refine ⟨_, rfl, _, rfl, _, rfl, _, rfl, f, p, b, ls, ps, ws, M, rfl, hF.mono e610, PairsAt.mono e610 hP, hM, fun H11 e11 => ?_⟩
          have e611 := e610.trans e11
          -- costs
          refine ⟨.ref el, rfl, el, _, rfl, .inr (SqT.of (e11 _ _ hE10)), .ref fl, rfl, fl, _, rfl, .inr (SqT.of (e11 _ _ hL10)), _, _, rfl, rfl, _, rfl, ?_⟩
          rw [decide_eq_false (by rw [wV_len, wV_len]; omega)]
          refine iteF ?_
          have lcE : ∀ t ∈ EL, tok ls t ∧ 0 ≤ Wd b ls ps t ∧ Wd b ls ps t ≤ M := fun t ht => ⟨(okE.lines t ht).1, (okE.lines t ht).2.1, (okE.lines t ht).2.2.1⟩
          have lcF : ∀ t ∈ FL, tok ls t ∧ 0 ≤ Wd b ls ps t ∧ Wd b ls ps t ≤ M := fun t ht => ⟨(okF.lines t ht).1, (okF.lines t ht).2.1, (okF.lines t ht).2.2.1⟩
          have fE := okE.few
          have fF := okF.few
          refine ⟨_, rfl, _, rfl, _, rfl, _, rfl, _, rfl, f, p, el, b, ls, ps, EL, M, rfl, hF.mono e611, PairsAt.mono e611 hP, e11 _ _ hE10, lcE, m2, by omega, fun H12 e12 => ⟨rfl, _, rfl, ?_⟩⟩
          rw [← pe, decide_eq_true rfl]
          refine iteF ?_
          have e612 := e611.trans e12
          refine ⟨_, rfl, _, rfl, _, rfl, _, rfl, _, rfl, f, p, fl, b, ls, ps, FL, M, rfl, hF.mono e612, PairsAt.mono e612 hP, e12 _ _ (e11 _ _ hL10), lcF, m2, by omega, fun H13 e13 => ⟨_, _, rfl, rfl, _, rfl, ?_⟩⟩
          rw [decide_eq_false (show ¬ (FL.dropLast.map fun t => (M - Wd b ls ps t) * (M - Wd b ls ps t)).sum < Pr b ls ps ws M 0 by omega)]
          refine iteF ?_
          have e613 := e612.trans e13
          -- prices
          refine ⟨_, rfl, _, rfl, _, rfl, _, rfl, f, p, b, ls, ps, ws, M, rfl, hF.mono e613, PairsAt.mono e613 hP, hM, fun pr H14 hpr e14 hp14 => ?_⟩
          have e614 := e613.trans e14
          have pl : (Prs b ls ps ws M ws.length).length = ws.length + 1 := prices_len _ _ _
          refine ⟨.ref pr, rfl, pr, _, 0, .int (Pr b ls ps ws M 0), rfl, rfl, SqT.of hp14, prs_at (Nat.zero_le _), _, rfl, rfl, _, rfl, ?_⟩
          rw [decide_eq_true rfl]
          refine iteF ?_
          refine ⟨_, rfl, _, rfl, _, rfl, _, rfl, _, rfl, f, p, pr, b, ls, ps, ws, M, _, rfl, hF.mono e614, PairsAt.mono e614 hP, hM, hp14, pl, fun v hv H15 e15 => ⟨v, true, rfl, rfl, _, rfl, ?_⟩⟩
          have ev : v = true := hv.mpr shows_yes
          subst ev
          rw [show (!decide (true = true)) = false from rfl]
          refine iteF ?_
          have e615 := e614.trans e15
          have hp15 := e15 _ _ hp14
          -- a higher first price
          refine ⟨_, rfl, _, rfl, _, rfl, _, rfl, .ref pr, rfl, pr, _, 0, .int (Pr b ls ps ws M 0), rfl, rfl, SqT.of hp15, prs_at (Nat.zero_le _), _, 1, rfl, rfl, (by show 1 ≤ sizeLine; decide), fun t1 ht1 => ?_⟩
          have e16 : Ex H15 (upd H15 t1 (.tup [.int (Pr b ls ps ws M 0 + 1)])) := ex_new ht1
          have ht16 : (upd H15 t1 (.tup [.int (Pr b ls ps ws M 0 + 1)])) t1 = some (.tup [.int (Pr b ls ps ws M 0 + 1)]) := upd_same
          have hp16 := e16 _ _ hp15
          dsimp only
          generalize upd H15 t1 (.tup [.int (Pr b ls ps ws M 0 + 1)]) = H16 at e16 ht16 hp16 ⊢
          rw [prs_ne] at hp16
          refine ⟨.ref pr, rfl, 1, rfl, noPart (sl_bump (x := .int (Pr b ls ps ws M 0)) (xs := iV (Prs b ls ps ws M ws.length).tail) hp16 fun t2 H17 e17 ht17 => ?_)⟩
          refine cat_bump (e17 _ _ ht16) ht17 (by simp) ?_ fun t3 H18 e18 ht18 => ?_
          · rw [iV_len, List.length_tail, pl]
            exact sz1000 (by simp only [List.length_singleton]; omega)
          have e618 := e615.trans (e16.trans (e17.trans e18))
          refine ⟨f, p, t3, b, ls, ps, ws, M, (Pr b ls ps ws M 0 + 1) :: (Prs b ls ps ws M ws.length).tail, rfl, hF.mono e618, PairsAt.mono e618 hP, hM, ht18, bump_len, fun v hv H19 e19 => ⟨v, true, rfl, rfl, _, rfl, ?_⟩⟩
          have ev : v = false := by
            cases v with
            | false => rfl
            | true => exact absurd (hv.mp rfl) (shows_no hM)
          subst ev
          rw [show decide (false = true) = false from rfl]
          refine iteF ?_
          have e619 := e618.trans e19
          have hE19 : H19 el = some (.tup (wV EL)) := ((e8.trans (e9.trans (e10.trans (e11.trans (e12.trans (e13.trans (e14.trans (e15.trans (e16.trans (e17.trans e18)))))))))).trans e19) _ _ hE7
          have hB19 := hB6.mono e619
          have hF19 := hF.mono e619
          have hP19 := PairsAt.mono e619 hP
          have e019 := e06.trans e619
          clear hE8 hL8 hE10 hL10 hF hP hF8 hP8
          refine ⟨.ref el, rfl, el, rfl, ⟨_, SqT.of hE19⟩, ?_⟩
          refine for_it (walk_tup (xs := wV EL)) (fun m σ H' => ∃ y15 y16 y17, σ = [some (.ref a), some (.int (i : Int)), some (.ref x), some (.ref f), some (.ref p), some z, some (.ref wa), some (.int M), some (.str (sx (jn ws))), some (.ref el), some (.ref fl), y11, y12, some (.int (Pr b ls ps ws M 0)), some (.ref pr), y15, y16, y17] ∧ Ex H19 H')
            ⟨_, _, _, rfl, Ex.refl _⟩ (fun m σ H' _ ⟨_, _, _, _, e⟩ => SqT.of (e _ _ hE19)) ?_ ?_
          · rintro m t σ H20 H20' hm ⟨y15, y16, y17, rfl, e20⟩ ⟨eh, ht⟩
            subst H20'
            rw [wV_len] at hm
            have g := List.getElem?_eq_getElem hm
            rw [wV_at g] at ht
            cases ht
            obtain ⟨t1, t2, t3, qs, et, hq⟩ := okE.lines _ (List.getElem_mem hm)
            clear g
            generalize EL[m] = t at t1 t2 t3 et ⊢
            subst et
            refine ⟨_, rfl, 32, sx (jn qs), congrArg V.str blk_eq, rfl, _, rfl, ite2 (fun hy => ?_) (fun _ => ?_)⟩
            · have h32 : 32 ∈ jn qs := by simpa [sx] using hy
              have two := two_of_blank hq h32
              have fq := hq.few
              refine ⟨_, rfl, _, rfl, _, rfl, _, rfl, f, p, b, ls, ps, qs, M, rfl, hF19.mono e20, PairsAt.mono e20 hP19, hq, two, m1, m2, t3, fun bl H21 hbl e21 hbl21 => ?_⟩
              obtain ⟨kk, hkk⟩ : ∃ kk : Nat, kk = qs.length - 1 := ⟨_, rfl⟩
              rw [← hkk] at hbl21
              have k0 : 0 < kk := by omega
              have e1921 := e20.trans e21
              refine ⟨_, rfl, _, rfl, _, rfl, f, p, b, ls, ps, jn qs, rfl, hF19.mono e1921, PairsAt.mono e1921 hP19, t1, fun H22 e22 => ?_⟩
              have e1922 := e1921.trans e22
              have hbl22 := e22 _ _ hbl21
              obtain ⟨fq', hf22, _⟩ := hF19.mono e1922
              have bll : (iV (blanks b ((M - Wd b ls ps (jn qs)) / (kk : Int)) ((M - Wd b ls ps (jn qs)) % (kk : Int)) kk)).length = kk := by rw [iV_len, blanks_len]
              refine ⟨.ref f, rfl, f, _, 0, .int b, rfl, rfl, SqT.of hf22, rfl, .ref bl, rfl, bl, _, rfl, .inr (SqT.of hbl22), b, _, rfl, rfl, ?_, _, _, rfl, rfl, ?_⟩
              · have b2 := hO.b2
                exact .inl ⟨by omega, by omega⟩
              · rw [bll]
                have b2 := hO.b2
                obtain ⟨b0, bs, hbs⟩ : ∃ b0 bs, blanks b ((M - Wd b ls ps (jn qs)) / (kk : Int)) ((M - Wd b ls ps (jn qs)) % (kk : Int)) kk = b0 :: bs := by
                  have q := blanks_len b ((M - Wd b ls ps (jn qs)) / (kk : Int)) ((M - Wd b ls ps (jn qs)) % (kk : Int)) kk
                  cases e : blanks b ((M - Wd b ls ps (jn qs)) / (kk : Int)) ((M - Wd b ls ps (jn qs)) % (kk : Int)) kk with
                  | nil =>
                    rw [e] at q
                    simp only [List.length_nil] at q
                    omega
                  | cons x r => exact ⟨x, r, rfl⟩
                have hsum := spread_room (b := b) (ls := ls) (ps := ps) (M := M) (t := jn qs) k0 (x := Wd b ls ps (jn qs) - b * (kk : Int)) rfl
                have near := fun {x y : Int} (hx : x ∈ b0 :: bs) (hy : y ∈ b0 :: bs) => blanks_near (f := b) (by rw [hbs]; exact hx) (by rw [hbs]; exact hy)
                rw [hbs] at hbl22 hsum
                refine ⟨_, rfl, .ref bl, rfl, bl, b0 :: bs, rfl, SqT.of hbl22, _, _, rfl, rfl, _, rfl, rfl, _, rfl, ?_⟩
                rw [show (!decide (V.int (Wd b ls ps (jn qs) - b * (kk : Int) + (b0 :: bs).sum) = V.int M)) = false by rw [hsum]; simp]
                refine iteF ⟨.ref bl, rfl, bl, b0, bs, rfl, SqT.of hbl22, fun mx g1 g2 => ⟨.ref bl, rfl, bl, b0, bs, rfl, SqT.of hbl22, fun mn h1 h2 => ⟨mx, mn, rfl, rfl, mx - mn, 1, rfl, rfl, _, rfl, ?_⟩⟩⟩
                have nr := near g1 h1
                rw [decide_eq_false (show ¬ 1 < mx - mn by omega)]
                exact iteF ⟨_, _, _, rfl, e1922⟩
            · exact ⟨_, _, _, rfl, e20⟩
          · rintro σ H20 ⟨y15, y16, y17, rfl, e20⟩
            have hB20 := hB19.mono e20
            exact ⟨_, _, _, _, _, _, _, _, _, _, _, _, _, rfl, e019.trans e20, hB20, FaceAt.rm hB20 (hF19.mono e20), PairsAt.rm hB20 (PairsAt.mono e20 hP19)⟩
      · rintro σ H4 ⟨y5, y6, y7, y8, y9, y10, y11, y12, y13, y14, y15, y16, y17, rfl, e04, _⟩
        exact ⟨_, _, _, _, _, _, _, _, _, _, _, _, _, _, _, _, _, rfl, e04⟩
    · rintro σ H0 ⟨y1, y2, y3, y4, y5, y6, y7, y8, y9, y10, y11, y12, y13, y14, y15, y16, y17, rfl, e0⟩
      exact k H0
end
end K96
namespace K96
open PySem PySem.Spec PyProof.Rows L2
theorem all_mk {l : PySem.W.OpenLaw} {w : World} {K : PySem.W.Frag} {h : Heap} {mg : Str → Option Value} {fa : Addr} {tw : _} (X : K.In h) (G : h.Ns mainGlobals mg) (hfa : mg "law" = some (.ref fa))
    {od1 an1 : Option Addr} {sl1 : Array (Option Value)} {oc1 kV1 dc1 pm1 cd1 ct1 : Value} {f1 : Addr}
    {od2 an2 : Option Addr} {sl2 : Array (Option Value)} {oc2 kV2 dc2 pm2 cd2 ct2 : Value} {f2 : Addr}
    {od3 an3 : Option Addr} {sl3 : Array (Option Value)} {oc3 kV3 dc3 pm3 cd3 ct3 : Value} {f3 : Addr}
    {od4 an4 : Option Addr} {sl4 : Array (Option Value)} {oc4 kV4 dc4 pm4 cd4 ct4 : Value} {f4 : Addr}
    {od5 an5 : Option Addr} {sl5 : Array (Option Value)} {oc5 kV5 dc5 pm5 cd5 ct5 : Value} {f5 : Addr}
    {od6 an6 : Option Addr} {sl6 : Array (Option Value)} {oc6 kV6 dc6 pm6 cd6 ct6 : Value} {f6 : Addr}
    {od7 an7 : Option Addr} {sl7 : Array (Option Value)} {oc7 kV7 dc7 pm7 cd7 ct7 : Value} {f7 : Addr}
    {od8 an8 : Option Addr} {sl8 : Array (Option Value)} {oc8 kV8 dc8 pm8 cd8 ct8 : Value} {f8 : Addr}
    {od9 an9 : Option Addr} {sl9 : Array (Option Value)} {oc9 kV9 dc9 pm9 cd9 ct9 : Value} {f9 : Addr}
    {od10 an10 : Option Addr} {sl10 : Array (Option Value)} {oc10 kV10 dc10 pm10 cd10 ct10 : Value} {f10 : Addr}
    {od11 an11 : Option Addr} {sl11 : Array (Option Value)} {oc11 kV11 dc11 pm11 cd11 ct11 : Value} {f11 : Addr}
    {od12 an12 : Option Addr} {sl12 : Array (Option Value)} {oc12 kV12 dc12 pm12 cd12 ct12 : Value} {f12 : Addr}
    {od13 an13 : Option Addr} {sl13 : Array (Option Value)} {oc13 kV13 dc13 pm13 cd13 ct13 : Value} {f13 : Addr}
    {od14 an14 : Option Addr} {sl14 : Array (Option Value)} {oc14 kV14 dc14 pm14 cd14 ct14 : Value} {f14 : Addr}
    {od15 an15 : Option Addr} {sl15 : Array (Option Value)} {oc15 kV15 dc15 pm15 cd15 ct15 : Value} {f15 : Addr}
    {od16 an16 : Option Addr} {sl16 : Array (Option Value)} {oc16 kV16 dc16 pm16 cd16 ct16 : Value} {f16 : Addr}
    {od17 an17 : Option Addr} {sl17 : Array (Option Value)} {oc17 kV17 dc17 pm17 cd17 ct17 : Value} {f17 : Addr}
    {od18 an18 : Option Addr} {sl18 : Array (Option Value)} {oc18 kV18 dc18 pm18 cd18 ct18 : Value} {f18 : Addr}
    {od19 an19 : Option Addr} {sl19 : Array (Option Value)} {oc19 kV19 dc19 pm19 cd19 ct19 : Value} {f19 : Addr}
    {od20 an20 : Option Addr} {sl20 : Array (Option Value)} {oc20 kV20 dc20 pm20 cd20 ct20 : Value} {f20 : Addr}
    {od21 an21 : Option Addr} {sl21 : Array (Option Value)} {oc21 kV21 dc21 pm21 cd21 ct21 : Value} {f21 : Addr}
    {od22 an22 : Option Addr} {sl22 : Array (Option Value)} {oc22 kV22 dc22 pm22 cd22 ct22 : Value} {f22 : Addr}
    {od23 an23 : Option Addr} {sl23 : Array (Option Value)} {oc23 kV23 dc23 pm23 cd23 ct23 : Value} {f23 : Addr}
    {od24 an24 : Option Addr} {sl24 : Array (Option Value)} {oc24 kV24 dc24 pm24 cd24 ct24 : Value} {f24 : Addr}
    {od25 an25 : Option Addr} {sl25 : Array (Option Value)} {oc25 kV25 dc25 pm25 cd25 ct25 : Value} {f25 : Addr}
    {od26 an26 : Option Addr} {sl26 : Array (Option Value)} {oc26 kV26 dc26 pm26 cd26 ct26 : Value} {f26 : Addr}
    {od27 an27 : Option Addr} {sl27 : Array (Option Value)} {oc27 kV27 dc27 pm27 cd27 ct27 : Value} {f27 : Addr}
    {od28 an28 : Option Addr} {sl28 : Array (Option Value)} {oc28 kV28 dc28 pm28 cd28 ct28 : Value} {f28 : Addr}
    {od29 an29 : Option Addr} {sl29 : Array (Option Value)} {oc29 kV29 dc29 pm29 cd29 ct29 : Value} {f29 : Addr}
    {od30 an30 : Option Addr} {sl30 : Array (Option Value)} {oc30 kV30 dc30 pm30 cd30 ct30 : Value} {f30 : Addr}
    {od31 an31 : Option Addr} {sl31 : Array (Option Value)} {oc31 kV31 dc31 pm31 cd31 ct31 : Value} {f31 : Addr}
    {od32 an32 : Option Addr} {sl32 : Array (Option Value)} {oc32 kV32 dc32 pm32 cd32 ct32 : Value} {f32 : Addr}
    {od33 an33 : Option Addr} {sl33 : Array (Option Value)} {oc33 kV33 dc33 pm33 cd33 ct33 : Value} {f33 : Addr}
    {od34 an34 : Option Addr} {sl34 : Array (Option Value)} {oc34 kV34 dc34 pm34 cd34 ct34 : Value} {f34 : Addr}
    {od35 an35 : Option Addr} {sl35 : Array (Option Value)} {oc35 kV35 dc35 pm35 cd35 ct35 : Value} {f35 : Addr}
    {od36 an36 : Option Addr} {sl36 : Array (Option Value)} {oc36 kV36 dc36 pm36 cd36 ct36 : Value} {f36 : Addr}
    {od37 an37 : Option Addr} {sl37 : Array (Option Value)} {oc37 kV37 dc37 pm37 cd37 ct37 : Value} {f37 : Addr}
    (a1 : PySem.W.nsIn K mainGlobals "is_from_to" = some (some (.ref f1))) (l1 : K.lookup f1 = some ⟨oc1, od1, .func (PySem.W.fnOf "is_from_to" "is_from_to" (defArgs s_is_from_to) (defBody s_is_from_to) (defScope s_is_from_to) .none kV1 dc1 pm1 an1 cd1 ct1), sl1⟩) (c1 : PySem.W.codeIn K cd1 "is_from_to" = true) (k1 : PySem.W.keepIn K (.ref f1) = true)
    (a2 : PySem.W.nsIn K mainGlobals "place_of" = some (some (.ref f2))) (l2 : K.lookup f2 = some ⟨oc2, od2, .func (PySem.W.fnOf "place_of" "place_of" (defArgs s_place_of) (defBody s_place_of) (defScope s_place_of) .none kV2 dc2 pm2 an2 cd2 ct2), sl2⟩) (c2 : PySem.W.codeIn K cd2 "place_of" = true) (k2 : PySem.W.keepIn K (.ref f2) = true)
    (a3 : PySem.W.nsIn K mainGlobals "gap_in" = some (some (.ref f3))) (l3 : K.lookup f3 = some ⟨oc3, od3, .func (PySem.W.fnOf "gap_in" "gap_in" (defArgs s_gap_in) (defBody s_gap_in) (defScope s_gap_in) .none kV3 dc3 pm3 an3 cd3 ct3), sl3⟩) (c3 : PySem.W.codeIn K cd3 "gap_in" = true) (k3 : PySem.W.keepIn K (.ref f3) = true)
    (a4 : PySem.W.nsIn K mainGlobals "is_sign" = some (some (.ref f4))) (l4 : K.lookup f4 = some ⟨oc4, od4, .func (PySem.W.fnOf "is_sign" "is_sign" (defArgs s_is_sign) (defBody s_is_sign) (defScope s_is_sign) .none kV4 dc4 pm4 an4 cd4 ct4), sl4⟩) (c4 : PySem.W.codeIn K cd4 "is_sign" = true) (k4 : PySem.W.keepIn K (.ref f4) = true)
    (a5 : PySem.W.nsIn K mainGlobals "is_text" = some (some (.ref f5))) (l5 : K.lookup f5 = some ⟨oc5, od5, .func (PySem.W.fnOf "is_text" "is_text" (defArgs s_is_text) (defBody s_is_text) (defScope s_is_text) .none kV5 dc5 pm5 an5 cd5 ct5), sl5⟩) (c5 : PySem.W.codeIn K cd5 "is_text" = true) (k5 : PySem.W.keepIn K (.ref f5) = true)
    (a6 : PySem.W.nsIn K mainGlobals "need_text" = some (some (.ref f6))) (l6 : K.lookup f6 = some ⟨oc6, od6, .func (PySem.W.fnOf "need_text" "need_text" (defArgs s_need_text) (defBody s_need_text) (defScope s_need_text) .none kV6 dc6 pm6 an6 cd6 ct6), sl6⟩) (c6 : PySem.W.codeIn K cd6 "need_text" = true) (k6 : PySem.W.keepIn K (.ref f6) = true)
    (a7 : PySem.W.nsIn K mainGlobals "sign_width" = some (some (.ref f7))) (l7 : K.lookup f7 = some ⟨oc7, od7, .func (PySem.W.fnOf "sign_width" "sign_width" (defArgs s_sign_width) (defBody s_sign_width) (defScope s_sign_width) .none kV7 dc7 pm7 an7 cd7 ct7), sl7⟩) (c7 : PySem.W.codeIn K cd7 "sign_width" = true) (k7 : PySem.W.keepIn K (.ref f7) = true)
    (a8 : PySem.W.nsIn K mainGlobals "between" = some (some (.ref f8))) (l8 : K.lookup f8 = some ⟨oc8, od8, .func (PySem.W.fnOf "between" "between" (defArgs s_between) (defBody s_between) (defScope s_between) .none kV8 dc8 pm8 an8 cd8 ct8), sl8⟩) (c8 : PySem.W.codeIn K cd8 "between" = true) (k8 : PySem.W.keepIn K (.ref f8) = true)
    (a9 : PySem.W.nsIn K mainGlobals "begins_in" = some (some (.ref f9))) (l9 : K.lookup f9 = some ⟨oc9, od9, .func (PySem.W.fnOf "begins_in" "begins_in" (defArgs s_begins_in) (defBody s_begins_in) (defScope s_begins_in) .none kV9 dc9 pm9 an9 cd9 ct9), sl9⟩) (c9 : PySem.W.codeIn K cd9 "begins_in" = true) (k9 : PySem.W.keepIn K (.ref f9) = true)
    (a10 : PySem.W.nsIn K mainGlobals "wide_in" = some (some (.ref f10))) (l10 : K.lookup f10 = some ⟨oc10, od10, .func (PySem.W.fnOf "wide_in" "wide_in" (defArgs s_wide_in) (defBody s_wide_in) (defScope s_wide_in) .none kV10 dc10 pm10 an10 cd10 ct10), sl10⟩) (c10 : PySem.W.codeIn K cd10 "wide_in" = true) (k10 : PySem.W.keepIn K (.ref f10) = true)
    (a11 : PySem.W.nsIn K mainGlobals "wide" = some (some (.ref f11))) (l11 : K.lookup f11 = some ⟨oc11, od11, .func (PySem.W.fnOf "wide" "wide" (defArgs s_wide) (defBody s_wide) (defScope s_wide) .none kV11 dc11 pm11 an11 cd11 ct11), sl11⟩) (c11 : PySem.W.codeIn K cd11 "wide" = true) (k11 : PySem.W.keepIn K (.ref f11) = true)
    (a12 : PySem.W.nsIn K mainGlobals "words_of" = some (some (.ref f12))) (l12 : K.lookup f12 = some ⟨oc12, od12, .func (PySem.W.fnOf "words_of" "words_of" (defArgs s_words_of) (defBody s_words_of) (defScope s_words_of) .none kV12 dc12 pm12 an12 cd12 ct12), sl12⟩) (c12 : PySem.W.codeIn K cd12 "words_of" = true) (k12 : PySem.W.keepIn K (.ref f12) = true)
    (a13 : PySem.W.nsIn K mainGlobals "line_of" = some (some (.ref f13))) (l13 : K.lookup f13 = some ⟨oc13, od13, .func (PySem.W.fnOf "line_of" "line_of" (defArgs s_line_of) (defBody s_line_of) (defScope s_line_of) .none kV13 dc13 pm13 an13 cd13 ct13), sl13⟩) (c13 : PySem.W.codeIn K cd13 "line_of" = true) (k13 : PySem.W.keepIn K (.ref f13) = true)
    (a14 : PySem.W.nsIn K mainGlobals "room_of" = some (some (.ref f14))) (l14 : K.lookup f14 = some ⟨oc14, od14, .func (PySem.W.fnOf "room_of" "room_of" (defArgs s_room_of) (defBody s_room_of) (defScope s_room_of) .none kV14 dc14 pm14 an14 cd14 ct14), sl14⟩) (c14 : PySem.W.codeIn K cd14 "room_of" = true) (k14 : PySem.W.keepIn K (.ref f14) = true)
    (a15 : PySem.W.nsIn K mainGlobals "need_wide" = some (some (.ref f15))) (l15 : K.lookup f15 = some ⟨oc15, od15, .func (PySem.W.fnOf "need_wide" "need_wide" (defArgs s_need_wide) (defBody s_need_wide) (defScope s_need_wide) .none kV15 dc15 pm15 an15 cd15 ct15), sl15⟩) (c15 : PySem.W.codeIn K cd15 "need_wide" = true) (k15 : PySem.W.keepIn K (.ref f15) = true)
    (a16 : PySem.W.nsIn K mainGlobals "need_words" = some (some (.ref f16))) (l16 : K.lookup f16 = some ⟨oc16, od16, .func (PySem.W.fnOf "need_words" "need_words" (defArgs s_need_words) (defBody s_need_words) (defScope s_need_words) .none kV16 dc16 pm16 an16 cd16 ct16), sl16⟩) (c16 : PySem.W.codeIn K cd16 "need_words" = true) (k16 : PySem.W.keepIn K (.ref f16) = true)
    (a17 : PySem.W.nsIn K mainGlobals "filled" = some (some (.ref f17))) (l17 : K.lookup f17 = some ⟨oc17, od17, .func (PySem.W.fnOf "filled" "filled" (defArgs s_filled) (defBody s_filled) (defScope s_filled) .none kV17 dc17 pm17 an17 cd17 ct17), sl17⟩) (c17 : PySem.W.codeIn K cd17 "filled" = true) (k17 : PySem.W.keepIn K (.ref f17) = true)
    (a18 : PySem.W.nsIn K mainGlobals "cost_in" = some (some (.ref f18))) (l18 : K.lookup f18 = some ⟨oc18, od18, .func (PySem.W.fnOf "cost_in" "cost_in" (defArgs s_cost_in) (defBody s_cost_in) (defScope s_cost_in) .none kV18 dc18 pm18 an18 cd18 ct18), sl18⟩) (c18 : PySem.W.codeIn K cd18 "cost_in" = true) (k18 : PySem.W.keepIn K (.ref f18) = true)
    (a19 : PySem.W.nsIn K mainGlobals "prices_of" = some (some (.ref f19))) (l19 : K.lookup f19 = some ⟨oc19, od19, .func (PySem.W.fnOf "prices_of" "prices_of" (defArgs s_prices_of) (defBody s_prices_of) (defScope s_prices_of) .none kV19 dc19 pm19 an19 cd19 ct19), sl19⟩) (c19 : PySem.W.codeIn K cd19 "prices_of" = true) (k19 : PySem.W.keepIn K (.ref f19) = true)
    (a20 : PySem.W.nsIn K mainGlobals "evened" = some (some (.ref f20))) (l20 : K.lookup f20 = some ⟨oc20, od20, .func (PySem.W.fnOf "evened" "evened" (defArgs s_evened) (defBody s_evened) (defScope s_evened) .none kV20 dc20 pm20 an20 cd20 ct20), sl20⟩) (c20 : PySem.W.codeIn K cd20 "evened" = true) (k20 : PySem.W.keepIn K (.ref f20) = true)
    (a21 : PySem.W.nsIn K mainGlobals "cost_of" = some (some (.ref f21))) (l21 : K.lookup f21 = some ⟨oc21, od21, .func (PySem.W.fnOf "cost_of" "cost_of" (defArgs s_cost_of) (defBody s_cost_of) (defScope s_cost_of) .none kV21 dc21 pm21 an21 cd21 ct21), sl21⟩) (c21 : PySem.W.codeIn K cd21 "cost_of" = true) (k21 : PySem.W.keepIn K (.ref f21) = true)
    (a22 : PySem.W.nsIn K mainGlobals "shows_even" = some (some (.ref f22))) (l22 : K.lookup f22 = some ⟨oc22, od22, .func (PySem.W.fnOf "shows_even" "shows_even" (defArgs s_shows_even) (defBody s_shows_even) (defScope s_shows_even) .none kV22 dc22 pm22 an22 cd22 ct22), sl22⟩) (c22 : PySem.W.codeIn K cd22 "shows_even" = true) (k22 : PySem.W.keepIn K (.ref f22) = true)
    (a23 : PySem.W.nsIn K mainGlobals "is_shown" = some (some (.ref f23))) (l23 : K.lookup f23 = some ⟨oc23, od23, .func (PySem.W.fnOf "is_shown" "is_shown" (defArgs s_is_shown) (defBody s_is_shown) (defScope s_is_shown) .none kV23 dc23 pm23 an23 cd23 ct23), sl23⟩) (c23 : PySem.W.codeIn K cd23 "is_shown" = true) (k23 : PySem.W.keepIn K (.ref f23) = true)
    (a24 : PySem.W.nsIn K mainGlobals "spread" = some (some (.ref f24))) (l24 : K.lookup f24 = some ⟨oc24, od24, .func (PySem.W.fnOf "spread" "spread" (defArgs s_spread) (defBody s_spread) (defScope s_spread) .none kV24 dc24 pm24 an24 cd24 ct24), sl24⟩) (c24 : PySem.W.codeIn K cd24 "spread" = true) (k24 : PySem.W.keepIn K (.ref f24) = true)
    (a25 : PySem.W.nsIn K mainGlobals "_law_box" = some (some (.ref f25))) (l25 : K.lookup f25 = some ⟨oc25, od25, .func (PySem.W.fnOf "_law_box" "_law_box" (defArgs s_law_box) (defBody s_law_box) (defScope s_law_box) .none kV25 dc25 pm25 an25 cd25 ct25), sl25⟩) (c25 : PySem.W.codeIn K cd25 "_law_box" = true) (k25 : PySem.W.keepIn K (.ref f25) = true)
    (a26 : PySem.W.nsIn K mainGlobals "_law_take" = some (some (.ref f26))) (l26 : K.lookup f26 = some ⟨oc26, od26, .func (PySem.W.fnOf "_law_take" "_law_take" (defArgs s_law_take) (defBody s_law_take) (defScope s_law_take) .none kV26 dc26 pm26 an26 cd26 ct26), sl26⟩) (c26 : PySem.W.codeIn K cd26 "_law_take" = true) (k26 : PySem.W.keepIn K (.ref f26) = true)
    (a27 : PySem.W.nsIn K mainGlobals "_law_face" = some (some (.ref f27))) (l27 : K.lookup f27 = some ⟨oc27, od27, .func (PySem.W.fnOf "_law_face" "_law_face" (defArgs s_law_face) (defBody s_law_face) (defScope s_law_face) .none kV27 dc27 pm27 an27 cd27 ct27), sl27⟩) (c27 : PySem.W.codeIn K cd27 "_law_face" = true) (k27 : PySem.W.keepIn K (.ref f27) = true)
    (a28 : PySem.W.nsIn K mainGlobals "_law_letters" = some (some (.ref f28))) (l28 : K.lookup f28 = some ⟨oc28, od28, .func (PySem.W.fnOf "_law_letters" "_law_letters" (defArgs s_law_letters) (defBody s_law_letters) (defScope s_law_letters) .none kV28 dc28 pm28 an28 cd28 ct28), sl28⟩) (c28 : PySem.W.codeIn K cd28 "_law_letters" = true) (k28 : PySem.W.keepIn K (.ref f28) = true)
    (a29 : PySem.W.nsIn K mainGlobals "_law_rows" = some (some (.ref f29))) (l29 : K.lookup f29 = some ⟨oc29, od29, .func (PySem.W.fnOf "_law_rows" "_law_rows" (defArgs s_law_rows) (defBody s_law_rows) (defScope s_law_rows) .none kV29 dc29 pm29 an29 cd29 ct29), sl29⟩) (c29 : PySem.W.codeIn K cd29 "_law_rows" = true) (k29 : PySem.W.keepIn K (.ref f29) = true)
    (a30 : PySem.W.nsIn K mainGlobals "_law_list" = some (some (.ref f30))) (l30 : K.lookup f30 = some ⟨oc30, od30, .func (PySem.W.fnOf "_law_list" "_law_list" (defArgs s_law_list) (defBody s_law_list) (defScope s_law_list) .none kV30 dc30 pm30 an30 cd30 ct30), sl30⟩) (c30 : PySem.W.codeIn K cd30 "_law_list" = true) (k30 : PySem.W.keepIn K (.ref f30) = true)
    (a31 : PySem.W.nsIn K mainGlobals "_law_pairs" = some (some (.ref f31))) (l31 : K.lookup f31 = some ⟨oc31, od31, .func (PySem.W.fnOf "_law_pairs" "_law_pairs" (defArgs s_law_pairs) (defBody s_law_pairs) (defScope s_law_pairs) .none kV31 dc31 pm31 an31 cd31 ct31), sl31⟩) (c31 : PySem.W.codeIn K cd31 "_law_pairs" = true) (k31 : PySem.W.keepIn K (.ref f31) = true)
    (a32 : PySem.W.nsIn K mainGlobals "_law_gap" = some (some (.ref f32))) (l32 : K.lookup f32 = some ⟨oc32, od32, .func (PySem.W.fnOf "_law_gap" "_law_gap" (defArgs s_law_gap) (defBody s_law_gap) (defScope s_law_gap) .none kV32 dc32 pm32 an32 cd32 ct32), sl32⟩) (c32 : PySem.W.codeIn K cd32 "_law_gap" = true) (k32 : PySem.W.keepIn K (.ref f32) = true)
    (a33 : PySem.W.nsIn K mainGlobals "_law_words" = some (some (.ref f33))) (l33 : K.lookup f33 = some ⟨oc33, od33, .func (PySem.W.fnOf "_law_words" "_law_words" (defArgs s_law_words) (defBody s_law_words) (defScope s_law_words) .none kV33 dc33 pm33 an33 cd33 ct33), sl33⟩) (c33 : PySem.W.codeIn K cd33 "_law_words" = true) (k33 : PySem.W.keepIn K (.ref f33) = true)
    (a34 : PySem.W.nsIn K mainGlobals "_law_wide" = some (some (.ref f34))) (l34 : K.lookup f34 = some ⟨oc34, od34, .func (PySem.W.fnOf "_law_wide" "_law_wide" (defArgs s_law_wide) (defBody s_law_wide) (defScope s_law_wide) .none kV34 dc34 pm34 an34 cd34 ct34), sl34⟩) (c34 : PySem.W.codeIn K cd34 "_law_wide" = true) (k34 : PySem.W.keepIn K (.ref f34) = true)
    (a35 : PySem.W.nsIn K mainGlobals "_law_room" = some (some (.ref f35))) (l35 : K.lookup f35 = some ⟨oc35, od35, .func (PySem.W.fnOf "_law_room" "_law_room" (defArgs s_law_room) (defBody s_law_room) (defScope s_law_room) .none kV35 dc35 pm35 an35 cd35 ct35), sl35⟩) (c35 : PySem.W.codeIn K cd35 "_law_room" = true) (k35 : PySem.W.keepIn K (.ref f35) = true)
    (a36 : PySem.W.nsIn K mainGlobals "_law_cost" = some (some (.ref f36))) (l36 : K.lookup f36 = some ⟨oc36, od36, .func (PySem.W.fnOf "_law_cost" "_law_cost" (defArgs s_law_cost) (defBody s_law_cost) (defScope s_law_cost) .none kV36 dc36 pm36 an36 cd36 ct36), sl36⟩) (c36 : PySem.W.codeIn K cd36 "_law_cost" = true) (k36 : PySem.W.keepIn K (.ref f36) = true)
    (a37 : PySem.W.nsIn K mainGlobals "law" = some (some (.ref f37))) (l37 : K.lookup f37 = some ⟨oc37, od37, .func (PySem.W.fnOf "law" "law" (defArgs s_law) (defBody s_law) (defScope s_law) .none kV37 dc37 pm37 an37 cd37 ct37), sl37⟩) (c37 : PySem.W.codeIn K cd37 "law" = true) (k37 : PySem.W.keepIn K (.ref f37) = true)
    (z1 : PySem.W.nsIn K mainGlobals "isinstance" = some none) (z2 : PySem.W.nsIn K mainGlobals "len" = some none) (z3 : PySem.W.nsIn K mainGlobals "all" = some none) (z4 : PySem.W.nsIn K mainGlobals "divmod" = some none) (z5 : PySem.W.nsIn K mainGlobals "abs" = some none) (z6 : PySem.W.nsIn K mainGlobals "sum" = some none) (z7 : PySem.W.nsIn K mainGlobals "max" = some none) (z8 : PySem.W.nsIn K mainGlobals "min" = some none) (z9 : PySem.W.nsIn K mainGlobals "list" = some none) (z10 : PySem.W.nsIn K mainGlobals "tuple" = some none) (z11 : PySem.W.nsIn K mainGlobals "dict" = some none) (z12 : PySem.W.nsIn K mainGlobals "int" = some none) (z13 : PySem.W.nsIn K mainGlobals "str" = some none) (z14 : PySem.W.nsIn K mainGlobals "bool" = some none) (z15 : PySem.W.nsIn K mainGlobals "range" = some none) (z16 : PySem.W.nsIn K mainGlobals "enumerate" = some none) (z17 : PySem.W.nsIn K mainGlobals "zip" = some none) (z18 : PySem.W.nsIn K mainGlobals "reversed" = some none)
    (mw : PySem.W.nsIn K mainGlobals "MOST_WIDE" = some (some (.int 999 tw))) :
    ∃ fd : FuncData, (∀ (s : Shared) (v : Value), BindsTo s fd ⟨[v], []⟩ [("_law_script", v)]) ∧ ∀ base : Heap, K.In base → base.Ns mainGlobals mg → FnOk l.prog w K mg base CX0 10 fa fd ["_law_script"] (sp_law K) := by
  have e := hfa.symm.trans (PySem.W.mg_of X G a37)
  cases e
  have F1 := fun_mk (st := s_is_from_to) l1 c1 k1
  have b1 := F1.binds (ps := ["thing", "least", "most"]) fun _ _ _ _ _ _ us hl => match us, hl with | [_, _, _], _ => rfl
  have F2 := fun_mk (st := s_place_of) l2 c2 k2
  have b2 := F2.binds (ps := ["face", "thing"]) fun _ _ _ _ _ _ us hl => match us, hl with | [_, _], _ => rfl
  have F3 := fun_mk (st := s_gap_in) l3 c3 k3
  have b3 := F3.binds (ps := ["pairs", "left", "right"]) fun _ _ _ _ _ _ us hl => match us, hl with | [_, _, _], _ => rfl
  have F4 := fun_mk (st := s_is_sign) l4 c4 k4
  have b4 := F4.binds (ps := ["face", "thing"]) fun _ _ _ _ _ _ us hl => match us, hl with | [_, _], _ => rfl
  have F5 := fun_mk (st := s_is_text) l5 c5 k5
  have b5 := F5.binds (ps := ["face", "thing"]) fun _ _ _ _ _ _ us hl => match us, hl with | [_, _], _ => rfl
  have F6 := fun_mk (st := s_need_text) l6 c6 k6
  have b6 := F6.binds (ps := ["face", "thing"]) fun _ _ _ _ _ _ us hl => match us, hl with | [_, _], _ => rfl
  have F7 := fun_mk (st := s_sign_width) l7 c7 k7
  have b7 := F7.binds (ps := ["face", "sign"]) fun _ _ _ _ _ _ us hl => match us, hl with | [_, _], _ => rfl
  have F8 := fun_mk (st := s_between) l8 c8 k8
  have b8 := F8.binds (ps := ["pairs", "one", "other"]) fun _ _ _ _ _ _ us hl => match us, hl with | [_, _, _], _ => rfl
  have F9 := fun_mk (st := s_begins_in) l9 c9 k9
  have b9 := F9.binds (ps := ["face", "pairs", "text"]) fun _ _ _ _ _ _ us hl => match us, hl with | [_, _, _], _ => rfl
  have F10 := fun_mk (st := s_wide_in) l10 c10 k10
  have b10 := F10.binds (ps := ["face", "pairs", "text"]) fun _ _ _ _ _ _ us hl => match us, hl with | [_, _, _], _ => rfl
  have F11 := fun_mk (st := s_wide) l11 c11 k11
  have b11 := F11.binds (ps := ["face", "pairs", "text"]) fun _ _ _ _ _ _ us hl => match us, hl with | [_, _, _], _ => rfl
  have F12 := fun_mk (st := s_words_of) l12 c12 k12
  have b12 := F12.binds (ps := ["face", "text"]) fun _ _ _ _ _ _ us hl => match us, hl with | [_, _], _ => rfl
  have F13 := fun_mk (st := s_line_of) l13 c13 k13
  have b13 := F13.binds (ps := ["words", "first", "behind"]) fun _ _ _ _ _ _ us hl => match us, hl with | [_, _, _], _ => rfl
  have F14 := fun_mk (st := s_room_of) l14 c14 k14
  have b14 := F14.binds (ps := ["face", "pairs", "line", "number"]) fun _ _ _ _ _ _ us hl => match us, hl with | [_, _, _, _], _ => rfl
  have F15 := fun_mk (st := s_need_wide) l15 c15 k15
  have b15 := F15.binds (ps := ["number"]) fun _ _ _ _ _ _ us hl => match us, hl with | [_], _ => rfl
  have F16 := fun_mk (st := s_need_words) l16 c16 k16
  have b16 := F16.binds (ps := ["face", "pairs", "text", "number"]) fun _ _ _ _ _ _ us hl => match us, hl with | [_, _, _, _], _ => rfl
  have F17 := fun_mk (st := s_filled) l17 c17 k17
  have b17 := F17.binds (ps := ["face", "pairs", "text", "number"]) fun _ _ _ _ _ _ us hl => match us, hl with | [_, _, _, _], _ => rfl
  have F18 := fun_mk (st := s_cost_in) l18 c18 k18
  have b18 := F18.binds (ps := ["face", "pairs", "words", "ends", "number"]) fun _ _ _ _ _ _ us hl => match us, hl with | [_, _, _, _, _], _ => rfl
  have F19 := fun_mk (st := s_prices_of) l19 c19 k19
  have b19 := F19.binds (ps := ["face", "pairs", "words", "number"]) fun _ _ _ _ _ _ us hl => match us, hl with | [_, _, _, _], _ => rfl
  have F20 := fun_mk (st := s_evened) l20 c20 k20
  have b20 := F20.binds (ps := ["face", "pairs", "text", "number"]) fun _ _ _ _ _ _ us hl => match us, hl with | [_, _, _, _], _ => rfl
  have F21 := fun_mk (st := s_cost_of) l21 c21 k21
  have b21 := F21.binds (ps := ["face", "pairs", "text", "number"]) fun _ _ _ _ _ _ us hl => match us, hl with | [_, _, _, _], _ => rfl
  have F22 := fun_mk (st := s_shows_even) l22 c22 k22
  have b22 := F22.binds (ps := ["face", "pairs", "text", "number"]) fun _ _ _ _ _ _ us hl => match us, hl with | [_, _, _, _], _ => rfl
  have F23 := fun_mk (st := s_is_shown) l23 c23 k23
  have b23 := F23.binds (ps := ["face", "pairs", "text", "number", "thing"]) fun _ _ _ _ _ _ us hl => match us, hl with | [_, _, _, _, _], _ => rfl
  have F24 := fun_mk (st := s_spread) l24 c24 k24
  have b24 := F24.binds (ps := ["face", "pairs", "text", "number"]) fun _ _ _ _ _ _ us hl => match us, hl with | [_, _, _, _], _ => rfl
  have F25 := fun_mk (st := s_law_box) l25 c25 k25
  have b25 := F25.binds (ps := ["_law_script", "_law_k"]) fun _ _ _ _ _ _ us hl => match us, hl with | [_, _], _ => rfl
  have F26 := fun_mk (st := s_law_take) l26 c26 k26
  have b26 := F26.binds (ps := ["_law_box_here", "_law_many"]) fun _ _ _ _ _ _ us hl => match us, hl with | [_, _], _ => rfl
  have F27 := fun_mk (st := s_law_face) l27 c27 k27
  have b27 := F27.binds (ps := ["_law_box_here", "_law_least", "_law_most"]) fun _ _ _ _ _ _ us hl => match us, hl with | [_, _, _], _ => rfl
  have F28 := fun_mk (st := s_law_letters) l28 c28 k28
  have b28 := F28.binds (ps := ["_law_face_here"]) fun _ _ _ _ _ _ us hl => match us, hl with | [_], _ => rfl
  have F29 := fun_mk (st := s_law_rows) l29 c29 k29
  have b29 := F29.binds (ps := ["_law_box_here", "_law_many"]) fun _ _ _ _ _ _ us hl => match us, hl with | [_, _], _ => rfl
  have F30 := fun_mk (st := s_law_list) l30 c30 k30
  have b30 := F30.binds (ps := ["_law_face_here", "_law_rows_here"]) fun _ _ _ _ _ _ us hl => match us, hl with | [_, _], _ => rfl
  have F31 := fun_mk (st := s_law_pairs) l31 c31 k31
  have b31 := F31.binds (ps := ["_law_box_here", "_law_face_here"]) fun _ _ _ _ _ _ us hl => match us, hl with | [_, _], _ => rfl
  have F32 := fun_mk (st := s_law_gap) l32 c32 k32
  have b32 := F32.binds (ps := ["_law_pairs_here", "_law_left", "_law_right"]) fun _ _ _ _ _ _ us hl => match us, hl with | [_, _, _], _ => rfl
  have F33 := fun_mk (st := s_law_words) l33 c33 k33
  have b33 := F33.binds (ps := ["_law_box_here", "_law_face_here", "_law_most"]) fun _ _ _ _ _ _ us hl => match us, hl with | [_, _, _], _ => rfl
  have F34 := fun_mk (st := s_law_wide) l34 c34 k34
  have b34 := F34.binds (ps := ["_law_face_here", "_law_pairs_here", "_law_text"]) fun _ _ _ _ _ _ us hl => match us, hl with | [_, _, _], _ => rfl
  have F35 := fun_mk (st := s_law_room) l35 c35 k35
  have b35 := F35.binds (ps := ["_law_box_here", "_law_face_here", "_law_pairs_here", "_law_words_here"]) fun _ _ _ _ _ _ us hl => match us, hl with | [_, _, _, _], _ => rfl
  have F36 := fun_mk (st := s_law_cost) l36 c36 k36
  have b36 := F36.binds (ps := ["_law_face_here", "_law_pairs_here", "_law_lines", "_law_number"]) fun _ _ _ _ _ _ us hl => match us, hl with | [_, _, _, _], _ => rfl
  have F37 := fun_mk (st := s_law) l37 c37 k37
  have T : Tx K mg := {
    a_is_from_to := _, d_is_from_to := _, f_is_from_to := F1, b_is_from_to := b1, g_is_from_to := PySem.W.mg_of X G a1
    a_place_of := _, d_place_of := _, f_place_of := F2, b_place_of := b2, g_place_of := PySem.W.mg_of X G a2
    a_gap_in := _, d_gap_in := _, f_gap_in := F3, b_gap_in := b3, g_gap_in := PySem.W.mg_of X G a3
    a_is_sign := _, d_is_sign := _, f_is_sign := F4, b_is_sign := b4, g_is_sign := PySem.W.mg_of X G a4
    a_is_text := _, d_is_text := _, f_is_text := F5, b_is_text := b5, g_is_text := PySem.W.mg_of X G a5
    a_need_text := _, d_need_text := _, f_need_text := F6, b_need_text := b6, g_need_text := PySem.W.mg_of X G a6
    a_sign_width := _, d_sign_width := _, f_sign_width := F7, b_sign_width := b7, g_sign_width := PySem.W.mg_of X G a7
    a_between := _, d_between := _, f_between := F8, b_between := b8, g_between := PySem.W.mg_of X G a8
    a_begins_in := _, d_begins_in := _, f_begins_in := F9, b_begins_in := b9, g_begins_in := PySem.W.mg_of X G a9
    a_wide_in := _, d_wide_in := _, f_wide_in := F10, b_wide_in := b10, g_wide_in := PySem.W.mg_of X G a10
    a_wide := _, d_wide := _, f_wide := F11, b_wide := b11, g_wide := PySem.W.mg_of X G a11
    a_words_of := _, d_words_of := _, f_words_of := F12, b_words_of := b12, g_words_of := PySem.W.mg_of X G a12
    a_line_of := _, d_line_of := _, f_line_of := F13, b_line_of := b13, g_line_of := PySem.W.mg_of X G a13
    a_room_of := _, d_room_of := _, f_room_of := F14, b_room_of := b14, g_room_of := PySem.W.mg_of X G a14
    a_need_wide := _, d_need_wide := _, f_need_wide := F15, b_need_wide := b15, g_need_wide := PySem.W.mg_of X G a15
    a_need_words := _, d_need_words := _, f_need_words := F16, b_need_words := b16, g_need_words := PySem.W.mg_of X G a16
    a_filled := _, d_filled := _, f_filled := F17, b_filled := b17, g_filled := PySem.W.mg_of X G a17
    a_cost_in := _, d_cost_in := _, f_cost_in := F18, b_cost_in := b18, g_cost_in := PySem.W.mg_of X G a18
    a_prices_of := _, d_prices_of := _, f_prices_of := F19, b_prices_of := b19, g_prices_of := PySem.W.mg_of X G a19
    a_evened := _, d_evened := _, f_evened := F20, b_evened := b20, g_evened := PySem.W.mg_of X G a20
    a_cost_of := _, d_cost_of := _, f_cost_of := F21, b_cost_of := b21, g_cost_of := PySem.W.mg_of X G a21
    a_shows_even := _, d_shows_even := _, f_shows_even := F22, b_shows_even := b22, g_shows_even := PySem.W.mg_of X G a22
    a_is_shown := _, d_is_shown := _, f_is_shown := F23, b_is_shown := b23, g_is_shown := PySem.W.mg_of X G a23
    a_spread := _, d_spread := _, f_spread := F24, b_spread := b24, g_spread := PySem.W.mg_of X G a24
    a_law_box := _, d_law_box := _, f_law_box := F25, b_law_box := b25, g_law_box := PySem.W.mg_of X G a25
    a_law_take := _, d_law_take := _, f_law_take := F26, b_law_take := b26, g_law_take := PySem.W.mg_of X G a26
    a_law_face := _, d_law_face := _, f_law_face := F27, b_law_face := b27, g_law_face := PySem.W.mg_of X G a27
    a_law_letters := _, d_law_letters := _, f_law_letters := F28, b_law_letters := b28, g_law_letters := PySem.W.mg_of X G a28
    a_law_rows := _, d_law_rows := _, f_law_rows := F29, b_law_rows := b29, g_law_rows := PySem.W.mg_of X G a29
    a_law_list := _, d_law_list := _, f_law_list := F30, b_law_list := b30, g_law_list := PySem.W.mg_of X G a30
    a_law_pairs := _, d_law_pairs := _, f_law_pairs := F31, b_law_pairs := b31, g_law_pairs := PySem.W.mg_of X G a31
    a_law_gap := _, d_law_gap := _, f_law_gap := F32, b_law_gap := b32, g_law_gap := PySem.W.mg_of X G a32
    a_law_words := _, d_law_words := _, f_law_words := F33, b_law_words := b33, g_law_words := PySem.W.mg_of X G a33
    a_law_wide := _, d_law_wide := _, f_law_wide := F34, b_law_wide := b34, g_law_wide := PySem.W.mg_of X G a34
    a_law_room := _, d_law_room := _, f_law_room := F35, b_law_room := b35, g_law_room := PySem.W.mg_of X G a35
    a_law_cost := _, d_law_cost := _, f_law_cost := F36, b_law_cost := b36, g_law_cost := PySem.W.mg_of X G a36
    g_MOST_WIDE := ⟨_, PySem.W.mg_of X G mw⟩
    z_isinstance := PySem.W.mg_none_of X G z1
    z_len := PySem.W.mg_none_of X G z2
    z_all := PySem.W.mg_none_of X G z3
    z_divmod := PySem.W.mg_none_of X G z4
    z_abs := PySem.W.mg_none_of X G z5
    z_sum := PySem.W.mg_none_of X G z6
    z_max := PySem.W.mg_none_of X G z7
    z_min := PySem.W.mg_none_of X G z8
    z_list := PySem.W.mg_none_of X G z9
    z_tuple := PySem.W.mg_none_of X G z10
    z_dict := PySem.W.mg_none_of X G z11
    z_int := PySem.W.mg_none_of X G z12
    z_str := PySem.W.mg_none_of X G z13
    z_bool := PySem.W.mg_none_of X G z14
    z_range := PySem.W.mg_none_of X G z15
    z_enumerate := PySem.W.mg_none_of X G z16
    z_zip := PySem.W.mg_none_of X G z17
    z_reversed := PySem.W.mg_none_of X G z18
  }
  exact ⟨PySem.W.fnOf "law" "law" (defArgs s_law) (defBody s_law) (defScope s_law) .none kV37 dc37 pm37 an37 cd37 ct37, fun s v => .of_eq rfl, fun base _ _ => ok_law T F37⟩
end K96
open PySem PySem.W PyProof.Rows
set_option maxHeartbeats 0 in
theorem PySem.Challenge.cw_stampgaps_k96_whole_breakings_holds : PySem.Challenge.rw_stampgaps_k96_whole_breakings.Holds := by
  w_on; o_law; k_head; (case hw => w_witness2)
  k_fill
  refine L2.walk_of (l := PySem.Challenge.rw_stampgaps_k96_whole_breakings) (n := 63) (k := 10) (x := "_law_script") (CX := fun _ => L2.CX0) (sp := fun w => K96.sp_law _) rfl (by decide) rfl ⟨rfl, by decide, by decide⟩ (fun w h Y => PySem.W.kIn_of Y) ?F (fun _ _ a ns hl _ hS => ⟨a, ns, rfl, hS, fun _ => rfl⟩) (fun _ _ _ _ _ h => h)
  case F =>
    intro w mg fa h KX G hmg
    refine' K96.all_mk KX G hmg ?a1 ?l1 ?c1 ?k1 ?a2 ?l2 ?c2 ?k2 ?a3 ?l3 ?c3 ?k3 ?a4 ?l4 ?c4 ?k4 ?a5 ?l5 ?c5 ?k5 ?a6 ?l6 ?c6 ?k6 ?a7 ?l7 ?c7 ?k7 ?a8 ?l8 ?c8 ?k8 ?a9 ?l9 ?c9 ?k9 ?a10 ?l10 ?c10 ?k10 ?a11 ?l11 ?c11 ?k11 ?a12 ?l12 ?c12 ?k12 ?a13 ?l13 ?c13 ?k13 ?a14 ?l14 ?c14 ?k14 ?a15 ?l15 ?c15 ?k15 ?a16 ?l16 ?c16 ?k16 ?a17 ?l17 ?c17 ?k17 ?a18 ?l18 ?c18 ?k18 ?a19 ?l19 ?c19 ?k19 ?a20 ?l20 ?c20 ?k20 ?a21 ?l21 ?c21 ?k21 ?a22 ?l22 ?c22 ?k22 ?a23 ?l23 ?c23 ?k23 ?a24 ?l24 ?c24 ?k24 ?a25 ?l25 ?c25 ?k25 ?a26 ?l26 ?c26 ?k26 ?a27 ?l27 ?c27 ?k27 ?a28 ?l28 ?c28 ?k28 ?a29 ?l29 ?c29 ?k29 ?a30 ?l30 ?c30 ?k30 ?a31 ?l31 ?c31 ?k31 ?a32 ?l32 ?c32 ?k32 ?a33 ?l33 ?c33 ?k33 ?a34 ?l34 ?c34 ?k34 ?a35 ?l35 ?c35 ?k35 ?a36 ?l36 ?c36 ?k36 ?a37 ?l37 ?c37 ?k37 ?z1 ?z2 ?z3 ?z4 ?z5 ?z6 ?z7 ?z8 ?z9 ?z10 ?z11 ?z12 ?z13 ?z14 ?z15 ?z16 ?z17 ?z18 ?mw
    (case a1 => k_is); (case l1 => k_is); (case c1 => k_is); (case k1 => k_is); (case a2 => k_is); (case l2 => k_is); (case c2 => k_is); (case k2 => k_is); (case a3 => k_is); (case l3 => k_is); (case c3 => k_is); (case k3 => k_is); (case a4 => k_is); (case l4 => k_is); (case c4 => k_is); (case k4 => k_is); (case a5 => k_is); (case l5 => k_is); (case c5 => k_is); (case k5 => k_is); (case a6 => k_is); (case l6 => k_is); (case c6 => k_is); (case k6 => k_is); (case a7 => k_is); (case l7 => k_is); (case c7 => k_is); (case k7 => k_is); (case a8 => k_is); (case l8 => k_is); (case c8 => k_is); (case k8 => k_is); (case a9 => k_is); (case l9 => k_is); (case c9 => k_is); (case k9 => k_is); (case a10 => k_is); (case l10 => k_is); (case c10 => k_is); (case k10 => k_is); (case a11 => k_is); (case l11 => k_is); (case c11 => k_is); (case k11 => k_is); (case a12 => k_is); (case l12 => k_is); (case c12 => k_is); (case k12 => k_is); (case a13 => k_is); (case l13 => k_is); (case c13 => k_is); (case k13 => k_is); (case a14 => k_is); (case l14 => k_is); (case c14 => k_is); (case k14 => k_is); (case a15 => k_is); (case l15 => k_is); (case c15 => k_is); (case k15 => k_is); (case a16 => k_is); (case l16 => k_is); (case c16 => k_is); (case k16 => k_is); (case a17 => k_is); (case l17 => k_is); (case c17 => k_is); (case k17 => k_is); (case a18 => k_is); (case l18 => k_is); (case c18 => k_is); (case k18 => k_is); (case a19 => k_is); (case l19 => k_is); (case c19 => k_is); (case k19 => k_is); (case a20 => k_is); (case l20 => k_is); (case c20 => k_is); (case k20 => k_is); (case a21 => k_is); (case l21 => k_is); (case c21 => k_is); (case k21 => k_is); (case a22 => k_is); (case l22 => k_is); (case c22 => k_is); (case k22 => k_is); (case a23 => k_is); (case l23 => k_is); (case c23 => k_is); (case k23 => k_is); (case a24 => k_is); (case l24 => k_is); (case c24 => k_is); (case k24 => k_is); (case a25 => k_is); (case l25 => k_is); (case c25 => k_is); (case k25 => k_is); (case a26 => k_is); (case l26 => k_is); (case c26 => k_is); (case k26 => k_is); (case a27 => k_is); (case l27 => k_is); (case c27 => k_is); (case k27 => k_is); (case a28 => k_is); (case l28 => k_is); (case c28 => k_is); (case k28 => k_is); (case a29 => k_is); (case l29 => k_is); (case c29 => k_is); (case k29 => k_is); (case a30 => k_is); (case l30 => k_is); (case c30 => k_is); (case k30 => k_is); (case a31 => k_is); (case l31 => k_is); (case c31 => k_is); (case k31 => k_is); (case a32 => k_is); (case l32 => k_is); (case c32 => k_is); (case k32 => k_is); (case a33 => k_is); (case l33 => k_is); (case c33 => k_is); (case k33 => k_is); (case a34 => k_is); (case l34 => k_is); (case c34 => k_is); (case k34 => k_is); (case a35 => k_is); (case l35 => k_is); (case c35 => k_is); (case k35 => k_is); (case a36 => k_is); (case l36 => k_is); (case c36 => k_is); (case k36 => k_is); (case a37 => k_is); (case l37 => k_is); (case c37 => k_is); (case k37 => k_is); (case z1 => k_is); (case z2 => k_is); (case z3 => k_is); (case z4 => k_is); (case z5 => k_is); (case z6 => k_is); (case z7 => k_is); (case z8 => k_is); (case z9 => k_is); (case z10 => k_is); (case z11 => k_is); (case z12 => k_is); (case z13 => k_is); (case z14 => k_is); (case z15 => k_is); (case z16 => k_is); (case z17 => k_is); (case z18 => k_is); (case mw => k_is)
