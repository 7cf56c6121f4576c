import PyProof.Rows.All
import Wide.All
import OpenK.AllK
import Wide.FinOn
import HandS.ForMost
import HandS.ForExc
import HandS.Style
import HandS.TupAny
import HandS.IsInst
import HandS.ExcIs
import PySem.Challenge.RW_textshards_k35_whole_implied_distances_a
set_option Elab.async false
set_option linter.all false
set_option maxRecDepth 100000
set_option maxHeartbeats 8000000
/-! TsMath: the mathematics of the distances, with no program in sight: relaxing limits (Bellman and Ford), when it comes to rest, what a row of lowerings leads back to, which differences are reached. -/
namespace TsM
/-- a limit (i, j, n): the position of j is at most that of i plus n -/
abbrev Lim := Nat × Nat × Int
abbrev Sums := Nat → Option Int
def put {α : Type} (s : Nat → α) (j : Nat) (v : α) : Nat → α := fun u => if u = j then v else s u
theorem put_same {α : Type} {s : Nat → α} {j : Nat} {v : α} : put s j v j = v := if_pos rfl
theorem put_ne {α : Type} {s : Nat → α} {j u : Nat} {v : α} (h : u ≠ j) : put s j v u = s u := if_neg h
def Holds (ls : List Lim) (x : Nat → Int) : Prop := ∀ e ∈ ls, x e.2.1 ≤ x e.1 + e.2.2
def Feas (ls : List Lim) : Prop := ∃ x, Holds ls x
def Bnd (n : Nat) (ls : List Lim) : Prop := ∀ e ∈ ls, e.1 < n ∧ e.2.1 < n
def SatE (s : Sums) (e : Lim) : Prop := ∀ a, s e.1 = some a → ∃ b, s e.2.1 = some b ∧ b ≤ a + e.2.2
def stepS (s : Sums) (e : Lim) : Sums := match s e.1 with
  | none => s
  | some a => match s e.2.1 with
    | none => put s e.2.1 (some (a + e.2.2))
    | some b => if a + e.2.2 < b then put s e.2.1 (some (a + e.2.2)) else s
theorem step_cases (s : Sums) (e : Lim) : (SatE s e ∧ stepS s e = s) ∨
    ∃ a, s e.1 = some a ∧ (∀ b, s e.2.1 = some b → a + e.2.2 < b) ∧ stepS s e = put s e.2.1 (some (a + e.2.2)) := by
  cases h1 : s e.1 with
  | none =>
    refine .inl ⟨fun a h => ?_, ?_⟩
    · rw [h1] at h; cases h
    · simp only [stepS, h1]
  | some a =>
    cases h2 : s e.2.1 with
    | none => exact .inr ⟨a, rfl, (fun b h => by cases h), by simp only [stepS, h1, h2]⟩
    | some b =>
      by_cases c : a + e.2.2 < b
      · exact .inr ⟨a, rfl, (fun b' h => by cases h; exact c), by simp only [stepS, h1, h2, if_pos c]⟩
      · refine .inl ⟨fun a' h => ?_, by simp only [stepS, h1, h2, if_neg c]⟩
        rw [h1] at h; cases h
        exact ⟨b, h2, by omega⟩
theorem step_of_sat {s : Sums} {e : Lim} (h : SatE s e) : stepS s e = s := by
  rcases step_cases s e with ⟨_, q⟩ | ⟨a, h1, h2, _⟩
  · exact q
  · obtain ⟨b, hb, hle⟩ := h a h1
    have := h2 b hb
    omega
def round (ls : List Lim) (s : Sums) : Sums := ls.foldl stepS s
def rounds (ls : List Lim) : Nat → Sums → Sums
  | 0, s => s
  | k + 1, s => round ls (rounds ls k s)
theorem fold_of_sat : ∀ (ls : List Lim) (s : Sums), (∀ e ∈ ls, SatE s e) → ls.foldl stepS s = s
  | [], _, _ => rfl
  | e :: ls, s, h => by
    rw [List.foldl_cons, step_of_sat (h e List.mem_cons_self)]
    exact fold_of_sat ls s fun e' he => h e' (List.mem_cons_of_mem _ he)
/-! ### coming to rest -/
section
variable (x : Nat → Int)
/-- v is at least as near as w, measured against x -/
def LeV (s : Sums) (v w : Nat) : Prop := ∀ b, s w = some b → ∃ a, s v = some a ∧ a - x v ≤ b - x w
theorem LeV.refl {s : Sums} {v : Nat} : LeV x s v v := fun b h => ⟨b, h, Int.le_refl _⟩
theorem LeV.trans {s : Sums} {u v w : Nat} (h : LeV x s u v) (h' : LeV x s v w) : LeV x s u w := fun b hb => by
  obtain ⟨a, ha, h1⟩ := h' b hb
  obtain ⟨c, hc, h2⟩ := h a ha
  exact ⟨c, hc, by omega⟩
theorem LeV.total (s : Sums) (v w : Nat) : LeV x s v w ∨ LeV x s w v := by
  cases hv : s v with
  | none => exact .inr fun b h => by rw [hv] at h; cases h
  | some a =>
    cases hw : s w with
    | none => exact .inl fun b h => by rw [hw] at h; cases h
    | some b =>
      by_cases c : a - x v ≤ b - x w
      · exact .inl fun b' h => by rw [hw] at h; cases h; exact ⟨a, hv, c⟩
      · exact .inr fun a' h => by rw [hv] at h; cases h; exact ⟨b, hw, by omega⟩
theorem least_out (s : Sums) : ∀ (out : List Nat), out ≠ [] → ∃ w ∈ out, ∀ u ∈ out, LeV x s w u
  | [], h => absurd rfl h
  | [v], _ => ⟨v, List.mem_cons_self, fun u hu => by
      rw [List.mem_singleton] at hu
      subst hu
      exact LeV.refl x⟩
  | v :: v' :: r, _ => by
    obtain ⟨w, hw, hmin⟩ := least_out s (v' :: r) (List.cons_ne_nil _ _)
    rcases LeV.total x s v w with h | h
    · refine ⟨v, List.mem_cons_self, fun u hu => ?_⟩
      rcases List.mem_cons.mp hu with rfl | hu
      · exact LeV.refl x
      · exact h.trans x (hmin u hu)
    · refine ⟨w, List.mem_cons_of_mem _ hw, fun u hu => ?_⟩
      rcases List.mem_cons.mp hu with rfl | hu
      · exact h
      · exact hmin u hu
/-- the marks below n that are not in out are at rest -/
structure Settled (n : Nat) (ls : List Lim) (out : List Nat) (s : Sums) : Prop where
  le : ∀ v, v < n → v ∉ out → ∀ u ∈ out, LeV x s v u
  sat : ∀ e ∈ ls, e.1 ∉ out → SatE s e
structure Mid (n : Nat) (ls pre : List Lim) (out : List Nat) (w : Nat) (s : Sums) : Prop where
  le : ∀ v, v < n → (v ∉ out ∨ v = w) → ∀ u ∈ out, LeV x s v u
  sat : ∀ e ∈ ls, e.1 ∉ out → SatE s e
  satw : ∀ e ∈ pre, e.1 = w → SatE s e
theorem Mid.step {n : Nat} {ls pre : List Lim} {out : List Nat} {w : Nat} {s : Sums} {e : Lim} (hx : Holds ls x) (hb : Bnd n ls) (hpre : ∀ e' ∈ pre, e' ∈ ls) (he : e ∈ ls) (M : Mid x n ls pre out w s) :
    Mid x n ls (pre ++ [e]) out w (stepS s e) := by
  rcases step_cases s e with ⟨h1, q⟩ | ⟨a, ha, hlt, q⟩
  · rw [q]
    refine ⟨M.le, M.sat, fun e' he' hw => ?_⟩
    rcases List.mem_append.mp he' with h | h
    · exact M.satw e' h hw
    · rw [List.mem_singleton] at h; subst h; exact h1
  · rw [q]
    have hio : e.1 ∈ out := by
      refine Classical.byContradiction fun hn => ?_
      obtain ⟨b, hb1, hb2⟩ := M.sat e he hn a ha
      have := hlt b hb1
      omega
    have hxe := hx e he
    have hj : ¬ (e.2.1 ∉ out ∨ e.2.1 = w) := fun hin => by
      obtain ⟨b, hb1, hb2⟩ := M.le e.2.1 (hb e he).2 hin e.1 hio a ha
      have := hlt b hb1
      omega
    have hjo : e.2.1 ∈ out := Classical.byContradiction fun hn => hj (.inl hn)
    have hjw : e.2.1 ≠ w := fun z => hj (.inr z)
    have keep : ∀ v, (v ∉ out ∨ v = w) → v ≠ e.2.1 := fun v hin z => hj (z ▸ hin)
    -- a satisfied limit that does not begin at the lowered mark stays satisfied
    have stay : ∀ e' : Lim, e'.1 ≠ e.2.1 → SatE s e' → SatE (put s e.2.1 (some (a + e.2.2))) e' := fun e' hne hs a' ha' => by
      rw [put_ne hne] at ha'
      obtain ⟨b', hb', hle⟩ := hs a' ha'
      by_cases z : e'.2.1 = e.2.1
      · rw [z] at hb'
        have := hlt b' hb'
        refine ⟨a + e.2.2, ?_, by omega⟩
        rw [z, put_same]
      · exact ⟨b', by rw [put_ne z]; exact hb', hle⟩
    refine ⟨fun v hv hin u hu b hbu => ?_, fun e' he' hn => stay e' (fun z => hn (z ▸ hjo)) (M.sat e' he' hn), fun e' he' hw => ?_⟩
    · have hvj := keep v hin
      by_cases z : u = e.2.1
      · rw [z, put_same] at hbu
        cases hbu
        obtain ⟨c, hc, h2⟩ := M.le v hv hin e.1 hio a ha
        refine ⟨c, by rw [put_ne hvj]; exact hc, ?_⟩
        rw [z]
        omega
      · rw [put_ne z] at hbu
        obtain ⟨c, hc, h2⟩ := M.le v hv hin u hu b hbu
        exact ⟨c, by rw [put_ne hvj]; exact hc, h2⟩
    · rcases List.mem_append.mp he' with h | h
      · exact stay e' (fun z => hjw (z.symm.trans hw)) (M.satw e' h hw)
      · rw [List.mem_singleton] at h
        subst h
        intro a' ha'
        have hne : e'.1 ≠ e'.2.1 := fun z => hjw (z.symm.trans hw)
        rw [put_ne hne, ha] at ha'
        cases ha'
        exact ⟨_, put_same, Int.le_refl _⟩
theorem Mid.fold {n : Nat} {ls : List Lim} {out : List Nat} {w : Nat} (hx : Holds ls x) (hb : Bnd n ls) : ∀ (post pre : List Lim) (s : Sums), (∀ e ∈ pre, e ∈ ls) → (∀ e ∈ post, e ∈ ls) → Mid x n ls pre out w s →
    Mid x n ls (pre ++ post) out w (post.foldl stepS s)
  | [], pre, s, _, _, M => by rw [List.append_nil]; exact M
  | e :: post, pre, s, h1, h2, M => by
    have he := h2 e List.mem_cons_self
    have := Mid.fold hx hb post (pre ++ [e]) (stepS s e) (fun e' h => by
      rcases List.mem_append.mp h with h | h
      · exact h1 e' h
      · rw [List.mem_singleton] at h; subst h; exact he) (fun e' h => h2 e' (List.mem_cons_of_mem _ h)) (M.step x hx hb h1 he)
    rw [List.append_assoc] at this
    exact this
theorem Settled.all {n : Nat} {ls : List Lim} {out : List Nat} {s : Sums} (hx : Holds ls x) (hb : Bnd n ls) (S : Settled x n ls out s) (h : out.length ≤ 1) : ∀ e ∈ ls, SatE s e := fun e he => by
  by_cases h1 : e.1 ∈ out
  · by_cases h2 : e.2.1 ∈ out
    · have : e.1 = e.2.1 := by
        match out, h, h1, h2 with
        | [z], _, h1, h2 => rw [List.mem_singleton] at h1 h2; rw [h1, h2]
      intro a ha
      have hxe := hx e he
      rw [← this] at hxe
      exact ⟨a, by rw [← this]; exact ha, by omega⟩
    · intro a ha
      have hxe := hx e he
      obtain ⟨b, hb1, hb2⟩ := S.le e.2.1 (hb e he).2 h2 e.1 h1 a ha
      exact ⟨b, hb1, by omega⟩
  · exact S.sat e he h1
theorem Settled.round {n : Nat} {ls : List Lim} {out : List Nat} {s : Sums} (hx : Holds ls x) (hb : Bnd n ls) (S : Settled x n ls out s) : ∃ out', out'.length ≤ out.length - 1 ∧ Settled x n ls out' (round ls s) := by
  by_cases h0 : out = []
  · subst h0
    have := S.all x hx hb (Nat.zero_le _)
    refine ⟨[], Nat.zero_le _, ?_⟩
    unfold TsM.round
    rw [fold_of_sat ls s this]
    exact S
  · obtain ⟨w, hw, hmin⟩ := least_out x s out h0
    have M : Mid x n ls [] out w s := ⟨fun v hv hin u hu => by
      rcases hin with hin | rfl
      · exact S.le v hv hin u hu
      · exact hmin u hu, S.sat, fun e h => nomatch h⟩
    have M' := Mid.fold x hx hb ls [] s (fun e h => nomatch h) (fun e h => h) M
    rw [List.nil_append] at M'
    refine ⟨out.filter (fun u => decide (u ≠ w)), ?_, ?_⟩
    · have : (out.filter (fun u => decide (u ≠ w))).length < out.length := List.length_filter_lt_length_iff_exists.mpr ⟨w, hw, by simp⟩
      omega
    · have ins : ∀ v, v ∉ out.filter (fun u => decide (u ≠ w)) → v ∉ out ∨ v = w := fun v hv => by
        by_cases z : v = w
        · exact .inr z
        · exact .inl fun hm => hv (List.mem_filter.mpr ⟨hm, decide_eq_true z⟩)
      refine ⟨fun v hv hn u hu => M'.le v hv (ins v hn) u (List.mem_filter.mp hu).1, fun e he hn => ?_⟩
      rcases ins _ hn with h | h
      · exact M'.sat e he h
      · exact M'.satw e he h
theorem settled_rounds {n : Nat} {ls : List Lim} (hx : Holds ls x) (hb : Bnd n ls) (s : Sums) : ∀ k, ∃ out, out.length ≤ n - k ∧ Settled x n ls out (rounds ls k s)
  | 0 => ⟨List.range n, by rw [List.length_range]; exact Nat.le_refl _, ⟨fun v hv hn => absurd (List.mem_range.mpr hv) hn, fun e he hn => absurd (List.mem_range.mpr (hb e he).1) hn⟩⟩
  | k + 1 => by
    obtain ⟨out, h1, h2⟩ := settled_rounds hx hb s k
    obtain ⟨out', h3, h4⟩ := h2.round x hx hb
    exact ⟨out', by omega, h4⟩
end
/-- after n - 1 rounds or more all limits hold, if positions exist -/
theorem at_rest {n k : Nat} {ls : List Lim} (hf : Feas ls) (hb : Bnd n ls) (s : Sums) (hk : n ≤ k + 1) : ∀ e ∈ ls, SatE (rounds ls k s) e := by
  obtain ⟨x, hx⟩ := hf
  obtain ⟨out, h1, h2⟩ := settled_rounds x hx hb s k
  exact h2.all x hx hb (by omega)
/-! ### positions -/
def stepP (p : Nat → Int) (e : Lim) : Nat → Int := if p e.1 + e.2.2 < p e.2.1 then put p e.2.1 (p e.1 + e.2.2) else p
def roundP (ls : List Lim) (p : Nat → Int) : Nat → Int := ls.foldl stepP p
def roundsP (ls : List Lim) : Nat → (Nat → Int) → (Nat → Int)
  | 0, p => p
  | k + 1, p => roundP ls (roundsP ls k p)
def lift (p : Nat → Int) : Sums := fun v => some (p v)
theorem lift_step (p : Nat → Int) (e : Lim) : stepS (lift p) e = lift (stepP p e) := by
  by_cases c : p e.1 + e.2.2 < p e.2.1
  · have : stepP p e = put p e.2.1 (p e.1 + e.2.2) := if_pos c
    rw [this]
    have : stepS (lift p) e = put (lift p) e.2.1 (some (p e.1 + e.2.2)) := by
      show (if p e.1 + e.2.2 < p e.2.1 then _ else _) = _
      rw [if_pos c]
    rw [this]
    funext u
    by_cases z : u = e.2.1
    · rw [z, put_same]
      exact congrArg some put_same.symm
    · rw [put_ne z]
      exact congrArg some (put_ne z).symm
  · have : stepP p e = p := if_neg c
    rw [this]
    show (if p e.1 + e.2.2 < p e.2.1 then _ else _) = _
    rw [if_neg c]
theorem lift_fold : ∀ (ls : List Lim) (p : Nat → Int), ls.foldl stepS (lift p) = lift (ls.foldl stepP p)
  | [], _ => rfl
  | e :: ls, p => by
    rw [List.foldl_cons, List.foldl_cons, lift_step]
    exact lift_fold ls _
theorem lift_rounds (ls : List Lim) (p : Nat → Int) : ∀ k, rounds ls k (lift p) = lift (roundsP ls k p)
  | 0 => rfl
  | k + 1 => by
    show round ls (rounds ls k (lift p)) = _
    rw [lift_rounds ls p k]
    exact lift_fold ls _
theorem restP {n k : Nat} {ls : List Lim} (hf : Feas ls) (hb : Bnd n ls) (p : Nat → Int) (hk : n ≤ k + 1) : Holds ls (roundsP ls k p) := fun e he => by
  have h := at_rest hf hb (lift p) hk e he
  rw [lift_rounds] at h
  obtain ⟨b, h1, h2⟩ := h _ rfl
  cases h1
  exact h2
theorem stepP_of {p : Nat → Int} {e : Lim} (h : p e.2.1 ≤ p e.1 + e.2.2) : stepP p e = p := if_neg (by omega)
/-! ### sums from a mark -/
theorem step_mono (s : Sums) (e : Lim) {v : Nat} {a : Int} (h : s v = some a) : ∃ b, stepS s e v = some b ∧ b ≤ a := by
  rcases step_cases s e with ⟨_, q⟩ | ⟨c, h1, h2, q⟩
  · rw [q]; exact ⟨a, h, Int.le_refl _⟩
  · rw [q]
    by_cases z : v = e.2.1
    · subst z
      have := h2 a h
      exact ⟨_, put_same, by omega⟩
    · exact ⟨a, by rw [put_ne z]; exact h, Int.le_refl _⟩
theorem fold_mono : ∀ (ls : List Lim) (s : Sums) {v : Nat} {a : Int}, s v = some a → ∃ b, ls.foldl stepS s v = some b ∧ b ≤ a
  | [], s, v, a, h => ⟨a, h, Int.le_refl _⟩
  | e :: ls, s, v, a, h => by
    obtain ⟨b, h1, h2⟩ := step_mono s e h
    obtain ⟨c, h3, h4⟩ := fold_mono ls (stepS s e) h1
    exact ⟨c, h3, by omega⟩
theorem rounds_mono (ls : List Lim) (s : Sums) {v : Nat} {a : Int} (h : s v = some a) : ∀ k, ∃ b, rounds ls k s v = some b ∧ b ≤ a
  | 0 => ⟨a, h, Int.le_refl _⟩
  | k + 1 => by
    obtain ⟨b, h1, h2⟩ := rounds_mono ls s h k
    obtain ⟨c, h3, h4⟩ := fold_mono ls _ h1
    exact ⟨c, h3, by omega⟩
/-- what the sums say is so of all positions that hold -/
def Sound (x : Nat → Int) (i : Nat) (s : Sums) : Prop := ∀ v a, s v = some a → x v ≤ x i + a
theorem Sound.step {x : Nat → Int} {i : Nat} {s : Sums} {e : Lim} (he : x e.2.1 ≤ x e.1 + e.2.2) (S : Sound x i s) : Sound x i (stepS s e) := by
  rcases step_cases s e with ⟨_, q⟩ | ⟨c, h1, h2, q⟩
  · rw [q]; exact S
  · rw [q]
    intro v a h
    by_cases z : v = e.2.1
    · rw [z, put_same] at h
      cases h
      have := S _ _ h1
      rw [z]
      omega
    · rw [put_ne z] at h
      exact S v a h
theorem Sound.fold {x : Nat → Int} {i : Nat} : ∀ (ls : List Lim) (s : Sums), Holds ls x → Sound x i s → Sound x i (ls.foldl stepS s)
  | [], _, _, S => S
  | e :: ls, s, h, S => Sound.fold ls _ (fun e' he => h e' (List.mem_cons_of_mem _ he)) (S.step (h e List.mem_cons_self))
theorem Sound.rounds {x : Nat → Int} {i : Nat} {ls : List Lim} {s : Sums} (h : Holds ls x) (S : Sound x i s) : ∀ k, Sound x i (rounds ls k s)
  | 0 => S
  | k + 1 => Sound.fold ls _ h (Sound.rounds h S k)
def from0 (i : Nat) : Sums := put (fun _ => none) i (some 0)
theorem from0_sound (x : Nat → Int) (i : Nat) : Sound x i (from0 i) := fun v a h => by
  by_cases z : v = i
  · unfold from0 at h
    rw [z, put_same] at h
    cases h
    rw [z]
    omega
  · unfold from0 at h
    rw [put_ne z] at h
    cases h
/-- the least sums from i, after n rounds -/
def sums (n : Nat) (ls : List Lim) (i : Nat) : Sums := rounds ls n (from0 i)
theorem sums_self {n : Nat} {ls : List Lim} (hf : Feas ls) (i : Nat) : sums n ls i i = some 0 := by
  obtain ⟨x, hx⟩ := hf
  obtain ⟨b, h1, h2⟩ := rounds_mono ls (from0 i) (v := i) (a := 0) put_same n
  have := Sound.rounds hx (from0_sound x i) n i b h1
  have e : b = 0 := by omega
  unfold sums
  rw [h1, e]
theorem sums_sat {n : Nat} {ls : List Lim} (hf : Feas ls) (hb : Bnd n ls) (i : Nat) : ∀ e ∈ ls, SatE (sums n ls i) e := at_rest hf hb _ (Nat.le_succ n)
theorem sums_sound {n : Nat} {ls : List Lim} {x : Nat → Int} (hx : Holds ls x) {i v : Nat} {a : Int} (h : sums n ls i v = some a) : x v - x i ≤ a := by
  have := Sound.rounds hx (from0_sound x i) n v a h
  omega
/-- which differences of j and i are reached, beyond one that is -/
theorem reach {n : Nat} {ls : List Lim} (hb : Bnd n ls) {x : Nat → Int} (hx : Holds ls x) (i j : Nat) (c : Int) (h1 : x j - x i ≤ c) (h2 : ∀ h, sums n ls i j = some h → c ≤ h) : ∃ y, Holds ls y ∧ y j - y i = c := by
  have hf : Feas ls := ⟨x, hx⟩
  have hs := sums_sat hf hb i
  refine ⟨fun v => match sums n ls i v with | none => x v + (c - x j) | some a => min a (x v + (c - x j)), fun e he => ?_, ?_⟩
  · have hxe := hx e he
    have hse := hs e he
    cases q1 : sums n ls i e.1 with
    | none =>
      cases q2 : sums n ls i e.2.1 with
      | none => simp only [q1, q2]; omega
      | some b => simp only [q1, q2]; omega
    | some a =>
      obtain ⟨b, q2, hle⟩ := hse a q1
      simp only [q1, q2]
      omega
  · have e0 := sums_self (n := n) hf i
    cases q : sums n ls i j with
    | none =>
      by_cases z : j = i
      · rw [z, e0] at q; cases q
      · simp only [q, e0]; omega
    | some h =>
      have := h2 h q
      simp only [q, e0]
      omega
/-! ### what a row of lowerings leads back to -/
structure PSt where
  p : Nat → Int
  c : Nat → Option Lim
  last : Option Nat
def stepC (s : PSt) (e : Lim) : PSt := if s.p e.1 + e.2.2 < s.p e.2.1 then ⟨put s.p e.2.1 (s.p e.1 + e.2.2), put s.c e.2.1 (some e), some e.2.1⟩ else s
theorem stepC_p (s : PSt) (e : Lim) : (stepC s e).p = stepP s.p e := by
  by_cases h : s.p e.1 + e.2.2 < s.p e.2.1
  · rw [show stepC s e = _ from if_pos h, show stepP s.p e = _ from if_pos h]
  · rw [show stepC s e = _ from if_neg h, show stepP s.p e = _ from if_neg h]
theorem foldC_p : ∀ (ls : List Lim) (s : PSt), (ls.foldl stepC s).p = ls.foldl stepP s.p
  | [], _ => rfl
  | e :: ls, s => by
    rw [List.foldl_cons, List.foldl_cons, ← stepC_p]
    exact foldC_p ls _
theorem stepC_sat {s : PSt} {e : Lim} (h : s.p e.2.1 ≤ s.p e.1 + e.2.2) : stepC s e = s := if_neg (by omega)
theorem foldC_sat : ∀ (ls : List Lim) (s : PSt), Holds ls s.p → ls.foldl stepC s = s
  | [], _, _ => rfl
  | e :: ls, s, h => by
    rw [List.foldl_cons, stepC_sat (h e List.mem_cons_self)]
    exact foldC_sat ls s fun e' he => h e' (List.mem_cons_of_mem _ he)
/-- nothing was lowered: all hold -/
theorem foldC_some : ∀ (ls : List Lim) (s : PSt), s.last ≠ none → (ls.foldl stepC s).last ≠ none
  | [], _, h => h
  | e :: ls, s, h => by
    rw [List.foldl_cons]
    refine foldC_some ls _ ?_
    by_cases q : s.p e.1 + e.2.2 < s.p e.2.1
    · rw [show stepC s e = _ from if_pos q]
      exact fun z => nomatch z
    · rw [show stepC s e = _ from if_neg q]
      exact h
theorem foldC_none : ∀ (ls : List Lim) (s : PSt), (ls.foldl stepC s).last = none → Holds ls s.p
  | [], _, _ => fun e he => nomatch he
  | e :: ls, s, h => by
    rw [List.foldl_cons] at h
    by_cases q : s.p e.1 + e.2.2 < s.p e.2.1
    · rw [show stepC s e = _ from if_pos q] at h
      exact absurd h (foldC_some ls _ (fun z => nomatch z))
    · rw [show stepC s e = _ from if_neg q] at h
      intro e' he'
      rcases List.mem_cons.mp he' with rfl | he'
      · omega
      · exact foldC_none ls s h e' he'
/-- rd v: the round in which v was lowered last (0: never) -/
structure Gh (k : Nat) (ls pre : List Lim) (rd : Nat → Nat) (s : PSt) : Prop where
  u : ∀ v, rd v ≤ k
  a : ∀ e ∈ pre, k ≤ rd e.1 ∨ s.p e.2.1 ≤ s.p e.1 + e.2.2
  b : ∀ e ∈ ls, k ≤ rd e.1 + 1 ∨ s.p e.2.1 ≤ s.p e.1 + e.2.2
  c : ∀ v, 1 ≤ rd v → ∃ e, s.c v = some e ∧ rd v ≤ rd e.1 + 1
  d : ∀ v e, s.c v = some e → e ∈ ls ∧ e.2.1 = v
  l : ∀ j, s.last = some j → k ≤ rd j
theorem Gh.step {k : Nat} {ls pre : List Lim} {rd : Nat → Nat} {s : PSt} {e : Lim} (he : e ∈ ls) (G : Gh k ls pre rd s) : ∃ rd', Gh k ls (pre ++ [e]) rd' (stepC s e) := by
  by_cases q : s.p e.1 + e.2.2 < s.p e.2.1
  · rw [show stepC s e = _ from if_pos q]
    have hk : k ≤ rd e.1 + 1 := by
      rcases G.b e he with h | h
      · exact h
      · omega
    have up : ∀ v, rd v ≤ put rd e.2.1 k v := fun v => by
      by_cases z : v = e.2.1
      · rw [z, put_same]; exact G.u _
      · rw [put_ne z]; exact Nat.le_refl _
    have sat : ∀ e' : Lim, (k ≤ put rd e.2.1 k e'.1 ∨ s.p e'.2.1 ≤ s.p e'.1 + e'.2.2) → (k ≤ put rd e.2.1 k e'.1 ∨ put s.p e.2.1 (s.p e.1 + e.2.2) e'.2.1 ≤ put s.p e.2.1 (s.p e.1 + e.2.2) e'.1 + e'.2.2) := fun e' h => by
      by_cases z1 : e'.1 = e.2.1
      · exact .inl (by rw [z1, put_same]; exact Nat.le_refl _)
      · rcases h with h | h
        · exact .inl h
        · refine .inr ?_
          rw [put_ne z1]
          by_cases z2 : e'.2.1 = e.2.1
          · rw [z2, put_same]
            rw [z2] at h
            omega
          · rw [put_ne z2]
            exact h
    refine ⟨put rd e.2.1 k, fun v => ?_, fun e' he' => ?_, fun e' he' => ?_, fun v hv => ?_, fun v e' h => ?_, fun j h => ?_⟩
    · by_cases z : v = e.2.1
      · rw [z, put_same]; exact Nat.le_refl _
      · rw [put_ne z]; exact G.u v
    · rcases List.mem_append.mp he' with h | h
      · rcases G.a e' h with h | h
        · exact .inl (Nat.le_trans h (up _))
        · exact sat e' (.inr h)
      · rw [List.mem_singleton] at h
        subst h
        by_cases z1 : e'.1 = e'.2.1
        · exact .inl (by rw [z1, put_same]; exact Nat.le_refl _)
        · refine .inr ?_
          show put s.p e'.2.1 (s.p e'.1 + e'.2.2) e'.2.1 ≤ put s.p e'.2.1 (s.p e'.1 + e'.2.2) e'.1 + e'.2.2
          rw [put_same, put_ne z1]
          exact Int.le_refl _
    · rcases G.b e' he' with h | h
      · exact .inl (Nat.le_trans h (Nat.succ_le_succ (up _)))
      · rcases sat e' (.inr h) with h | h
        · exact .inl (Nat.le_succ_of_le h)
        · exact .inr h
    · by_cases z : v = e.2.1
      · refine ⟨e, ?_, ?_⟩
        · rw [z]; exact put_same
        · rw [z, put_same]
          exact Nat.le_trans hk (Nat.succ_le_succ (up _))
      · rw [put_ne z] at hv ⊢
        obtain ⟨e', h1, h2⟩ := G.c v hv
        refine ⟨e', ?_, Nat.le_trans h2 (Nat.succ_le_succ (up _))⟩
        show put s.c e.2.1 (some e) v = some e'
        rw [put_ne z]
        exact h1
    · by_cases z : v = e.2.1
      · have h' : put s.c e.2.1 (some e) v = some e' := h
        rw [z, put_same] at h'
        cases h'
        exact ⟨he, z.symm⟩
      · have h' : put s.c e.2.1 (some e) v = some e' := h
        rw [put_ne z] at h'
        exact G.d v e' h'
    · have h' : some e.2.1 = some j := h
      cases h'
      rw [put_same]
      exact Nat.le_refl _
  · rw [show stepC s e = _ from if_neg q]
    refine ⟨rd, G.u, fun e' he' => ?_, G.b, G.c, G.d, G.l⟩
    rcases List.mem_append.mp he' with h | h
    · exact G.a e' h
    · rw [List.mem_singleton] at h
      subst h
      exact .inr (by omega)
theorem Gh.fold {k : Nat} {ls : List Lim} : ∀ (post pre : List Lim) (rd : Nat → Nat) (s : PSt), (∀ e ∈ post, e ∈ ls) → Gh k ls pre rd s → ∃ rd', Gh k ls (pre ++ post) rd' (post.foldl stepC s)
  | [], pre, rd, s, _, G => ⟨rd, by rw [List.append_nil]; exact G⟩
  | e :: post, pre, rd, s, h, G => by
    obtain ⟨rd1, G1⟩ := G.step (h e List.mem_cons_self)
    obtain ⟨rd2, G2⟩ := Gh.fold post (pre ++ [e]) rd1 (stepC s e) (fun e' he' => h e' (List.mem_cons_of_mem _ he')) G1
    rw [List.append_assoc] at G2
    exact ⟨rd2, G2⟩
def roundsC (ls : List Lim) : Nat → PSt → PSt
  | 0, s => s
  | k + 1, s => ls.foldl stepC { roundsC ls k s with last := none }
def start0 : PSt := ⟨fun _ => 0, fun _ => none, none⟩
theorem gh_rounds (ls : List Lim) : ∀ k, ∃ rd, Gh (k + 1) ls ls rd (roundsC ls (k + 1) start0)
  | 0 => by
    have G : Gh 1 ls [] (fun _ => 0) { roundsC ls 0 start0 with last := none } := ⟨fun _ => Nat.zero_le _, (fun e h => nomatch h), fun e _ => .inl (Nat.le_refl _), fun v h => absurd h (by decide), (fun v e h => nomatch h), fun j h => nomatch h⟩
    have := Gh.fold ls [] _ _ (fun e h => h) G
    rw [List.nil_append] at this
    exact this
  | k + 1 => by
    obtain ⟨rd, G⟩ := gh_rounds ls k
    have G' : Gh (k + 1 + 1) ls [] rd { roundsC ls (k + 1) start0 with last := none } := ⟨fun v => Nat.le_succ_of_le (G.u v), (fun e h => nomatch h), fun e he => by
      rcases G.a e he with h | h
      · exact .inl (Nat.succ_le_succ h)
      · exact .inr h, G.c, G.d, fun j h => nomatch h⟩
    have := Gh.fold ls [] _ _ (fun e h => h) G'
    rw [List.nil_append] at this
    exact this
theorem roundsC_p (ls : List Lim) : ∀ k, (roundsC ls k start0).p = roundsP ls k (fun _ => 0)
  | 0 => rfl
  | k + 1 => by
    show (ls.foldl stepC { roundsC ls k start0 with last := none }).p = roundP ls (roundsP ls k fun _ => 0)
    rw [foldC_p, ← roundsC_p ls k]
    rfl
theorem pigeon : ∀ (n : Nat) (g : Nat → Nat), (∀ t, t ≤ n → g t < n) → ∃ a b, a < b ∧ b ≤ n ∧ g a = g b
  | 0, g, h => absurd (h 0 (Nat.le_refl _)) (Nat.not_lt_zero _)
  | n + 1, g, h => by
    by_cases q : ∃ t, t ≤ n ∧ g t = g (n + 1)
    · obtain ⟨t, h1, h2⟩ := q
      exact ⟨t, n + 1, by omega, Nat.le_refl _, h2⟩
    · have ne : ∀ t, t ≤ n → g t ≠ g (n + 1) := fun t ht e => q ⟨t, ht, e⟩
      have hl := h (n + 1) (Nat.le_refl _)
      obtain ⟨a, b, h1, h2, h3⟩ := pigeon n (fun t => if g t > g (n + 1) then g t - 1 else g t) (fun t ht => by
        have h1 := ne t ht
        have h2 := h t (by omega)
        show (if g t > g (n + 1) then g t - 1 else g t) < n
        split <;> omega)
      have na := ne a (by omega)
      have nb := ne b (by omega)
      refine ⟨a, b, h1, by omega, ?_⟩
      have h3' : (if g a > g (n + 1) then g a - 1 else g a) = (if g b > g (n + 1) then g b - 1 else g b) := h3
      split at h3' <;> split at h3' <;> omega
def back (c : Nat → Option Lim) (v : Nat) : Nat := match c v with
  | some e => e.1
  | none => v
def bk (c : Nat → Option Lim) : Nat → Nat → Nat
  | 0, v => v
  | t + 1, v => back c (bk c t v)
theorem bk_add (c : Nat → Option Lim) (t : Nat) : ∀ (u v : Nat), bk c (t + u) v = bk c u (bk c t v)
  | 0, _ => rfl
  | u + 1, v => congrArg (back c) (bk_add c t u v)
theorem back_of {c : Nat → Option Lim} {v : Nat} {e : Lim} (h : c v = some e) : back c v = e.1 := by
  unfold back
  rw [h]
/-- after n rounds in each of which a mark was lowered, the limits that lowered lead round in a ring -/
theorem ring {n : Nat} {ls : List Lim} (hb : Bnd n ls) {k m : Nat} (hn : n = k + 1) (hl : (roundsC ls n start0).last = some m) :
    (∀ t, ∃ e, (roundsC ls n start0).c (bk (roundsC ls n start0).c t m) = some e ∧ e ∈ ls ∧ e.2.1 = bk (roundsC ls n start0).c t m) ∧
    ∃ d, 1 ≤ d ∧ d ≤ n ∧ bk (roundsC ls n start0).c (n + d) m = bk (roundsC ls n start0).c n m := by
  subst hn
  obtain ⟨rd, G⟩ := gh_rounds ls k
  have hm := G.l m hl
  generalize roundsC ls (k + 1) start0 = s at *
  have chain : ∀ t, t ≤ k + 1 → k + 1 ≤ rd (bk s.c t m) + t := by
    intro t
    induction t with
    | zero => intro _; exact hm
    | succ t ih =>
      intro ht
      have h1 := ih (by omega)
      obtain ⟨e, h2, h3⟩ := G.c (bk s.c t m) (by omega)
      show k + 1 ≤ rd (back s.c (bk s.c t m)) + (t + 1)
      rw [back_of h2]
      omega
  have have1 : ∀ t, t < k + 1 → ∃ e, s.c (bk s.c t m) = some e ∧ e ∈ ls ∧ e.2.1 = bk s.c t m := fun t ht => by
    have h1 := chain t (by omega)
    obtain ⟨e, h2, _⟩ := G.c (bk s.c t m) (by omega)
    exact ⟨e, h2, G.d _ _ h2⟩
  have lt : ∀ t, t ≤ k + 1 → bk s.c t m < k + 1 := by
    intro t ht
    cases t with
    | zero =>
      obtain ⟨e, h2, _⟩ := have1 0 (by omega)
      obtain ⟨h3, h4⟩ := G.d _ _ h2
      rw [← h4]
      exact (hb e h3).2
    | succ t =>
      obtain ⟨e, h2, h3, _⟩ := have1 t (by omega)
      show back s.c (bk s.c t m) < k + 1
      rw [back_of h2]
      exact (hb e h3).1
  obtain ⟨a, b, hab, hbn, hg⟩ := pigeon (k + 1) (fun t => bk s.c t m) lt
  have hg : bk s.c a m = bk s.c b m := hg
  refine ⟨?_, b - a, by omega, by omega, ?_⟩
  · intro t
    induction t using Nat.strongRecOn with
    | ind t ih =>
      by_cases ht : t < k + 1
      · exact have1 t ht
      · have e1 : bk s.c t m = bk s.c (t - b + a) m := by
          rw [show t = b + (t - b) by omega, bk_add, ← hg, ← bk_add]
          congr 1
          omega
        rw [e1]
        exact ih (t - b + a) (by omega)
  · rw [show k + 1 + (b - a) = b + (k + 1 - a) by omega, bk_add, ← hg, ← bk_add]
    congr 1
    omega
theorem ring_lt {n : Nat} {ls : List Lim} (hb : Bnd n ls) {c : Nat → Option Lim} {m : Nat} (h : ∀ t, ∃ e, c (bk c t m) = some e ∧ e ∈ ls ∧ e.2.1 = bk c t m) (t : Nat) : bk c t m < n := by
  obtain ⟨e, _, h2, h3⟩ := h t
  rw [← h3]
  exact (hb e h2).2
/-- a round in which a mark was lowered, the n-th: no positions exist -/
theorem not_feas {k : Nat} {ls : List Lim} (hb : Bnd (k + 1) ls) (hl : (roundsC ls (k + 1) start0).last ≠ none) : ¬ Feas ls := fun hf => by
  have h := restP hf hb (fun _ => 0) (Nat.le_refl (k + 1))
  rw [← roundsC_p] at h
  refine hl ?_
  show (ls.foldl stepC { roundsC ls k start0 with last := none }).last = none
  rw [foldC_sat ls { roundsC ls k start0 with last := none } h]
/-! ### the law's words -/
structure Dist where
  i : Nat
  j : Nat
  lo : Int
  hi : Int
def limsOf : List Dist → List Lim
  | [] => []
  | d :: r => (d.i, d.j, d.hi) :: (d.j, d.i, -d.lo) :: limsOf r
theorem limsOf_append : ∀ a b : List Dist, limsOf (a ++ b) = limsOf a ++ limsOf b
  | [], _ => rfl
  | d :: a, b => by
    show _ :: _ :: limsOf (a ++ b) = _ :: _ :: (limsOf a ++ limsOf b)
    rw [limsOf_append a b]
theorem take_more {α : Type} : ∀ {l : List α} {i : Nat} {x : α}, l[i]? = some x → l.take (i + 1) = l.take i ++ [x]
  | [], i, x, h => by simp at h
  | a :: l, 0, x, h => by
    have e : a = x := Option.some.inj h
    subst e
    rfl
  | a :: l, i + 1, x, h => by
    have ih := take_more (l := l) (i := i) (x := x) h
    show a :: l.take (i + 1) = a :: l.take i ++ [x]
    rw [ih]
    rfl
theorem limsOf_take {ds : List Dist} {k : Nat} {d : Dist} (h : ds[k]? = some d) : limsOf (ds.take (k + 1)) = limsOf (ds.take k) ++ [(d.i, d.j, d.hi), (d.j, d.i, -d.lo)] := by
  rw [take_more h, limsOf_append]
  rfl
theorem limsOf_length : ∀ ds : List Dist, (limsOf ds).length = 2 * ds.length
  | [] => rfl
  | d :: r => by
    show (limsOf r).length + 1 + 1 = 2 * (r.length + 1)
    rw [limsOf_length r]
    omega
def DBnd (n : Nat) (ds : List Dist) : Prop := ∀ d ∈ ds, d.i < n ∧ d.j < n
theorem limsOf_bnd {n : Nat} : ∀ {ds : List Dist}, DBnd n ds → Bnd n (limsOf ds)
  | [], _ => fun e he => nomatch he
  | d :: r, h => fun e he => by
    have hd := h d List.mem_cons_self
    rcases List.mem_cons.mp he with rfl | he
    · exact hd
    · rcases List.mem_cons.mp he with rfl | he
      · exact ⟨hd.2, hd.1⟩
      · exact limsOf_bnd (fun d' h' => h d' (List.mem_cons_of_mem _ h')) e he
def Can (ds : List Dist) (i j : Nat) (c : Int) : Prop := Feas (limsOf (ds ++ [⟨i, j, c, c⟩]))
theorem can_iff {ds : List Dist} {i j : Nat} {c : Int} : Can ds i j c ↔ ∃ y, Holds (limsOf ds) y ∧ y j - y i = c := by
  unfold Can Feas Holds
  rw [limsOf_append]
  constructor
  · rintro ⟨y, h⟩
    refine ⟨y, fun e he => h e (List.mem_append_left _ he), ?_⟩
    have h1 := h (i, j, c) (List.mem_append_right _ List.mem_cons_self)
    have h2 := h (j, i, -c) (List.mem_append_right _ (List.mem_cons_of_mem _ List.mem_cons_self))
    have h1' : y j ≤ y i + c := h1
    have h2' : y i ≤ y j + -c := h2
    omega
  · rintro ⟨y, h, q⟩
    refine ⟨y, fun e he => ?_⟩
    rcases List.mem_append.mp he with he | he
    · exact h e he
    · rcases List.mem_cons.mp he with rfl | he
      · show y j ≤ y i + c
        omega
      · rcases List.mem_cons.mp he with rfl | he
        · show y i ≤ y j + -c
          omega
        · exact nomatch he
/-- the law's own search: after n + 1 rounds all limits hold, or no positions exist -/
theorem best_iff {n : Nat} {ds : List Dist} (hb : DBnd n ds) : Holds (limsOf ds) (roundsP (limsOf ds) (n + 1) fun _ => 0) ↔ Feas (limsOf ds) :=
  ⟨fun h => ⟨_, h⟩, fun h => restP h (limsOf_bnd hb) _ (by omega)⟩
structure Told (ds : List Dist) (i j : Nat) (low high : Option Int) : Prop where
  hi : ∀ h, high = some h → Can ds i j h ∧ ¬ Can ds i j (h + 1)
  lo : ∀ l, low = some l → Can ds i j l ∧ ¬ Can ds i j (l - 1)
  noLo : low = none → Can ds i j (0 - 500 + high.getD 0)
  noHi : high = none → Can ds i j (500 + low.getD 0)
theorem told {n : Nat} {ds : List Dist} (hb : DBnd n ds) (hf : Feas (limsOf ds)) (i j : Nat) : Told ds i j ((sums n (limsOf ds) j i).map fun b => -b) (sums n (limsOf ds) i j) := by
  have hB := limsOf_bnd hb
  obtain ⟨x, hx⟩ := hf
  have hi : ∀ h, sums n (limsOf ds) i j = some h → ∃ y, Holds (limsOf ds) y ∧ y j - y i = h := fun h q =>
    reach hB hx i j h (sums_sound hx q) fun h' q' => by rw [q] at q'; cases q'; exact Int.le_refl _
  have lo : ∀ b, sums n (limsOf ds) j i = some b → ∃ y, Holds (limsOf ds) y ∧ y j - y i = -b := fun b q => by
    obtain ⟨y, h1, h2⟩ := reach hB hx j i b (sums_sound hx q) fun h' q' => by rw [q] at q'; cases q'; exact Int.le_refl _
    exact ⟨y, h1, by omega⟩
  have up : sums n (limsOf ds) i j = none → ∀ y, Holds (limsOf ds) y → ∀ c, y j - y i ≤ c → Can ds i j c := fun q y hy c hc =>
    can_iff.mpr (reach hB hy i j c hc fun h' q' => by rw [q] at q'; cases q')
  have down : sums n (limsOf ds) j i = none → ∀ y, Holds (limsOf ds) y → ∀ c, c ≤ y j - y i → Can ds i j c := fun q y hy c hc => by
    obtain ⟨z, h1, h2⟩ := reach hB hy j i (-c) (by omega) fun h' q' => by rw [q] at q'; cases q'
    exact can_iff.mpr ⟨z, h1, by omega⟩
  refine ⟨fun h q => ⟨can_iff.mpr (hi h q), fun hc => ?_⟩, fun l q => ?_, fun q => ?_, fun q => ?_⟩
  · obtain ⟨y, h1, h2⟩ := can_iff.mp hc
    have := sums_sound h1 q
    omega
  · cases e : sums n (limsOf ds) j i with
    | none => rw [e] at q; cases q
    | some b =>
      rw [e] at q
      have q' : -b = l := Option.some.inj q
      subst q'
      refine ⟨can_iff.mpr (lo b e), fun hc => ?_⟩
      obtain ⟨y, h1, h2⟩ := can_iff.mp hc
      have := sums_sound h1 e
      omega
  · have e : sums n (limsOf ds) j i = none := by
      cases e : sums n (limsOf ds) j i with
      | none => rfl
      | some b => rw [e] at q; cases q
    cases eh : sums n (limsOf ds) i j with
    | none =>
      show Can ds i j (0 - 500 + 0)
      by_cases c : -500 ≤ x j - x i
      · exact down e x hx _ (by omega)
      · exact up eh x hx _ (by omega)
    | some h =>
      show Can ds i j (0 - 500 + h)
      obtain ⟨y, h1, h2⟩ := hi h eh
      exact down e y h1 _ (by omega)
  · cases e : sums n (limsOf ds) j i with
    | none =>
      show Can ds i j (500 + 0)
      by_cases c : x j - x i ≤ 500
      · exact up q x hx _ (by omega)
      · exact down e x hx _ (by omega)
    | some b =>
      show Can ds i j (500 + -b)
      obtain ⟨y, h1, h2⟩ := lo b e
      exact up q y h1 _ (by omega)
end TsM
/-! TsBase: how the heap bears distances, limits and positions. -/
namespace Ts
open PySem PySem.Spec PyProof.Rows L2 TsM
/-! ### the text by places -/
def topS (i : Nat) : Stmt := PySem.Challenge.pw_textshards_k35_whole_implied_distances_a.main.body.getD i (.Pass ⟨0, 0, 0, 0⟩)
abbrev sCheck : Stmt := topS 8
abbrev sLims : Stmt := topS 9
abbrev sRelax : Stmt := topS 10
abbrev sRing : Stmt := topS 11
abbrev sPlaced : Stmt := topS 12
abbrev sLeast : Stmt := topS 13
abbrev sImpl : Stmt := topS 14
abbrev sBegin : Stmt := topS 16
abbrev sTake : Stmt := topS 17
abbrev sSigned : Stmt := topS 18
abbrev sInt : Stmt := topS 19
abbrev sLLims : Stmt := topS 20
abbrev sBest : Stmt := topS 21
abbrev sDists : Stmt := topS 22
abbrev sTold : Stmt := topS 23
abbrev sCan : Stmt := topS 24
abbrev sLaw : Stmt := topS 25
/-! ### tests whose answer is known -/
theorem ifN {c A B : Prop} [Decidable c] (h : ¬ c) (q : B) : if decide c = true then A else B := by
  rw [decide_eq_false h]
  exact iteF q
theorem ifY {c A B : Prop} [Decidable c] (h : c) (q : A) : if decide c = true then A else B := by
  rw [decide_eq_true h]
  exact iteT q
theorem if2 {c A B : Prop} [Decidable c] (q : c → A) (q' : ¬ c → B) : if decide c = true then A else B := by
  by_cases h : c
  · exact ifY h (q h)
  · exact ifN h (q' h)
/-! ### rows of addresses -/
def Rows {α : Type} (R : Addr → α → Prop) : List Addr → List α → Prop
  | [], [] => True
  | t :: ts, e :: ls => R t e ∧ Rows R ts ls
  | _, _ => False
section
variable {α : Type} {R R' : Addr → α → Prop}
theorem Rows.length : ∀ {ts : List Addr} {ls : List α}, Rows R ts ls → ts.length = ls.length
  | [], [], _ => rfl
  | _ :: _, _ :: _, h => congrArg (· + 1) (Rows.length h.2)
  | [], _ :: _, h => h.elim
  | _ :: _, [], h => h.elim
theorem Rows.get : ∀ {ts : List Addr} {ls : List α} {k : Nat} {e : α}, Rows R ts ls → ls[k]? = some e → ∃ t, ts[k]? = some t ∧ R t e
  | [], [], k, e, _, h => by simp at h
  | t :: ts, e' :: ls, 0, e, r, h => by
    have z : e' = e := Option.some.inj h
    subst z
    exact ⟨t, rfl, r.1⟩
  | t :: ts, e' :: ls, k + 1, e, r, h => Rows.get (ts := ts) (ls := ls) (k := k) r.2 h
  | [], _ :: _, _, _, r, _ => r.elim
  | _ :: _, [], _, _, r, _ => r.elim
theorem Rows.at : ∀ {ts : List Addr} {ls : List α} {k : Nat} {t : Addr}, Rows R ts ls → ts[k]? = some t → ∃ e, ls[k]? = some e ∧ R t e
  | [], [], k, e, _, h => by simp at h
  | t' :: ts, e' :: ls, 0, t, r, h => by
    have z : t' = t := Option.some.inj h
    subst z
    exact ⟨e', rfl, r.1⟩
  | t' :: ts, e' :: ls, k + 1, t, r, h => Rows.at (ts := ts) (ls := ls) (k := k) r.2 h
  | [], _ :: _, _, _, r, _ => r.elim
  | _ :: _, [], _, _, r, _ => r.elim
theorem Rows.mono (f : ∀ t e, R t e → R' t e) : ∀ {ts : List Addr} {ls : List α}, Rows R ts ls → Rows R' ts ls
  | [], [], _ => trivial
  | _ :: _, _ :: _, h => ⟨f _ _ h.1, Rows.mono f h.2⟩
  | [], _ :: _, h => h.elim
  | _ :: _, [], h => h.elim
theorem Rows.snoc {t : Addr} {e : α} (h : R t e) : ∀ {ts : List Addr} {ls : List α}, Rows R ts ls → Rows R (ts ++ [t]) (ls ++ [e])
  | [], [], _ => ⟨h, trivial⟩
  | _ :: _, _ :: _, r => ⟨r.1, Rows.snoc h r.2⟩
  | [], _ :: _, r => r.elim
  | _ :: _, [], r => r.elim
end
theorem ref_at {ts : List Addr} {k : Nat} {x : V} (h : (ts.map V.ref)[k]? = some x) : ∃ t, ts[k]? = some t ∧ x = .ref t := by
  rw [List.getElem?_map] at h
  cases e : ts[k]? with
  | none => rw [e] at h; cases h
  | some t => rw [e] at h; exact ⟨t, rfl, (Option.some.inj h).symm⟩
/-! ### heaps -/
/-- all but what stands at d is as it was -/
def SameX (d : Addr) (H H' : Hp) : Prop := ∀ b o, b ≠ d → H b = some o → H' b = some o
theorem SameX.refl (d : Addr) (H : Hp) : SameX d H H := fun _ _ _ h => h
theorem SameX.trans {d : Addr} {H H1 H2 : Hp} (a : SameX d H H1) (b : SameX d H1 H2) : SameX d H H2 := fun c o n h => b c o n (a c o n h)
theorem SameX.of {d : Addr} {H H' : Hp} (h : Same H H') : SameX d H H' := fun b o _ e => h b o e
/-- all but what stands at p and at c is as it was -/
def Same2 (p c : Addr) (H H' : Hp) : Prop := ∀ b o, b ≠ p → b ≠ c → H b = some o → H' b = some o
theorem same_upd {H : Hp} {p : Addr} {o : HO} (h : H p = none) : Same H (upd H p o) := fun b x e => by
  rw [upd_ne (ne_of_none e h)]
  exact e
theorem sameX_upd {H : Hp} {p : Addr} {o : HO} : SameX p H (upd H p o) := fun b x n e => by
  rw [upd_ne n]
  exact e
/-! ### tables -/
def tab (n : Nat) (f : Nat → V) : List V := (List.range n).map f
theorem tab_length (n : Nat) (f : Nat → V) : (tab n f).length = n := by
  unfold tab
  rw [List.length_map, List.length_range]
theorem tab_get {n v : Nat} {f : Nat → V} (h : v < n) : (tab n f)[v]? = some (f v) := by
  unfold tab
  rw [List.getElem?_map, List.getElem?_range h]
  rfl
theorem tab_set {n v : Nat} {f : Nat → V} {x : V} : (tab n f).set v x = tab n (put f v x) := by
  refine List.ext_getElem? fun u => ?_
  by_cases hu : u < n
  · rw [tab_get hu, List.getElem?_set]
    by_cases z : v = u
    · subst z
      rw [if_pos rfl, if_pos (by rw [tab_length]; exact hu), put_same]
    · rw [if_neg z, tab_get hu, put_ne (Ne.symm z)]
  · rw [List.getElem?_eq_none (by rw [List.length_set, tab_length]; omega), List.getElem?_eq_none (by rw [tab_length]; omega)]
theorem tab_congr {n : Nat} {f g : Nat → V} (h : ∀ v, v < n → f v = g v) : tab n f = tab n g := by
  refine List.ext_getElem? fun u => ?_
  by_cases hu : u < n
  · rw [tab_get hu, tab_get hu, h u hu]
  · rw [List.getElem?_eq_none (by rw [tab_length]; omega), List.getElem?_eq_none (by rw [tab_length]; omega)]
theorem rep_flat (x : V) : ∀ n : Nat, (List.replicate n [x]).flatten = List.replicate n x
  | 0 => rfl
  | n + 1 => by
    rw [List.replicate_succ, List.flatten_cons, rep_flat x n]
    rfl
theorem rep_tab (x : V) (n : Nat) : (List.replicate n [x]).flatten = tab n fun _ => x := by
  rw [rep_flat]
  refine List.ext_getElem? fun u => ?_
  by_cases hu : u < n
  · rw [tab_get hu, List.getElem?_replicate, if_pos hu]
  · rw [List.getElem?_eq_none (by rw [List.length_replicate]; omega), List.getElem?_eq_none (by rw [tab_length]; omega)]
theorem ixN_nat {n v : Nat} (h : v < n) : ixN n (v : Int) = some v := by
  unfold ixN
  rw [if_pos (Int.natCast_nonneg v), if_pos (by omega)]
  rfl
theorem tab_at {n v : Nat} {f : Nat → V} (h : v < n) : atI (tab n f) (v : Int) = some (f v) := atI_nat (tab_get h)
/-! ### what stands where -/
def DistT (H : Hp) (t : Addr) (d : Dist) : Prop := H t = some (.tup [.int d.i, .int d.j, .int d.lo, .int d.hi])
/-- at D a tuple of the distances -/
def DsAt (H : Hp) (D : Addr) (ds : List Dist) : Prop := ∃ ts : List Addr, H D = some (.tup (ts.map V.ref)) ∧ Rows (DistT H) ts ds
def LimT (H : Hp) (t : Addr) (e : Lim) : Prop := ∃ (k : Int) (z : Str), H t = some (.tup [.int e.1, .int e.2.1, .int e.2.2, .int k, .str z])
/-- at L a list of the limits -/
def LsAt (H : Hp) (L : Addr) (ls : List Lim) : Prop := ∃ ts : List Addr, H L = some (.lst (ts.map V.ref)) ∧ Rows (LimT H) ts ls
def LimT3 (H : Hp) (t : Addr) (e : Lim) : Prop := H t = some (.tup [.int e.1, .int e.2.1, .int e.2.2])
/-- .. in the law's own form -/
def Ls3At (H : Hp) (L : Addr) (ls : List Lim) : Prop := ∃ ts : List Addr, H L = some (.lst (ts.map V.ref)) ∧ Rows (LimT3 H) ts ls
theorem DsAt.same {H H' : Hp} {D : Addr} {ds : List Dist} (h : Same H H') : DsAt H D ds → DsAt H' D ds := fun ⟨ts, h1, h2⟩ => ⟨ts, h _ _ h1, h2.mono fun t d q => h _ _ q⟩
theorem LsAt.same {H H' : Hp} {L : Addr} {ls : List Lim} (h : Same H H') : LsAt H L ls → LsAt H' L ls := fun ⟨ts, h1, h2⟩ => ⟨ts, h _ _ h1, h2.mono fun t d ⟨k, z, q⟩ => ⟨k, z, h _ _ q⟩⟩
theorem Ls3At.same {H H' : Hp} {L : Addr} {ls : List Lim} (h : Same H H') : Ls3At H L ls → Ls3At H' L ls := fun ⟨ts, h1, h2⟩ => ⟨ts, h _ _ h1, h2.mono fun t d q => h _ _ q⟩
/-- a list stands at d: distances are not touched by a change there -/
theorem DsAt.sameX {H H' : Hp} {D d : Addr} {ds : List Dist} {xs : List V} (h : SameX d H H') (hd : H d = some (.lst xs)) : DsAt H D ds → DsAt H' D ds := fun ⟨ts, h1, h2⟩ =>
  ⟨ts, h _ _ (ne_of h1 hd (by intro z; cases z)) h1, h2.mono fun t d q => h _ _ (ne_of q hd (by intro z; cases z)) q⟩
structure DsOk (count : Nat) (ds : List Dist) : Prop where
  lo : 1 ≤ count
  hi : count ≤ 60
  len : ds.length ≤ 400
  bnd : DBnd count ds
  iv : ∀ d ∈ ds, -1000000 ≤ d.lo ∧ d.hi ≤ 1000000 ∧ d.lo ≤ d.hi
def oV : Option Int → V
  | none => .non
  | some i => .int i
def nV : Option Nat → V
  | none => .non
  | some i => .int i
theorem small {n : Nat} (h : n ≤ 10000) : n < sizeLine := Nat.lt_of_le_of_lt h (by decide)
theorem smallE {n : Nat} (h : n ≤ 10000) : n ≤ sizeLine := Nat.le_of_lt (small h)
end Ts
/-! TsA: check_distances, limits_of. -/
namespace Ts
open PySem PySem.Spec PyProof.Rows L2 TsM
theorem scCheck : FnScope ["count", "distances", "i", "j", "low", "high"] ["count", "distances"] (defScope sCheck) := ⟨rfl, rfl, rfl, by decide +kernel, rfl, by decide +kernel, by decide +kernel⟩
theorem scLims : FnScope ["distances", "limits", "k", "i", "j", "low", "high"] ["distances"] (defScope sLims) := ⟨rfl, rfl, rfl, by decide +kernel, rfl, by decide +kernel, by decide +kernel⟩
def spCheck : Sp := fun vs H Q _ => ∃ (n : Nat) (D : Addr) (ds : List Dist), vs = [.int n, .ref D] ∧ DsAt H D ds ∧ DsOk n ds ∧ Q .non H
def spLims : Sp := fun vs H Q _ => ∃ (D : Addr) (ds : List Dist), vs = [.ref D] ∧ DsAt H D ds ∧ ds.length ≤ 400 ∧ ∀ H' L, Same H H' → H L = none → LsAt H' L (limsOf ds) → Q (.ref L) H'
section
variable {P : Program} {w : World} {K : PySem.W.Frag} {mg : Str → Option Value} {base : Heap}
theorem ok_check {f : Addr} {fd : FuncData} {t1 t2 t3 : Tok} (F : Fun K "check_distances" "check_distances" sCheck f fd) (ml : mg "len" = none) (m1 : mg "MARK_LIMIT" = some (.int 60 t1)) (m2 : mg "DISTANCE_LIMIT" = some (.int 400 t2)) (m3 : mg "WIDEST" = some (.int 1000000 t3)) :
    FnOk P w K mg base CX0 1 f fd ["count", "distances"] spCheck := by
  refine F.ok scCheck (fun vs H Q E h => ?_) (fun cdv A outer s H vs Q E hr h => ?_)
  · obtain ⟨n, D, ds, rfl, _⟩ := h
    rfl
  · obtain ⟨n, D, ds, rfl, hD, ok, q⟩ := h
    refine ⟨_, pss_cons (ps_if (PW.pt (pw_or (pt_cmpR op_lt (pv 0) pe_int (nomark _)) (pw_or (pt_cmpR op_gt (pv 0) (pe_glob (v := .int 60) rfl m1 ⟨_, rfl⟩) (nomark _))
          (pw_or1 (pt_cmpR op_gt (pe_callB call_len_seq (by rfl) ml PySem.boot_len (pa_cons (pv 1) pa_nil)) (pe_glob (v := .int 400) rfl m2 ⟨_, rfl⟩) (nomark _)))))) pss_never pss_nil)
      (pss_one (ps_for PassesOwn.never rfl (pi_tup (pv 1)) (pg_tup (by rfl) (pgs_cons (pg_name (i := 2) scCheck.nd rfl (.inl rfl)) (pgs_cons (pg_name (i := 3) scCheck.nd rfl (.inl rfl)) (pgs_cons (pg_name (i := 4) scCheck.nd rfl (.inl rfl)) (pgs_cons (pg_name (i := 5) scCheck.nd rfl (.inl rfl)) pgs_nil)))))
        (pss_cons (ps_if (PW.pt (pw_or (pt_cmpR op_lt (pv 2) pe_int (nomark _)) (pw_or (pt_cmpR op_ge (pv 2) (pv 0) (nomark _)) (pw_or (pt_cmpR op_lt (pv 3) pe_int (nomark _)) (pw_or1 (pt_cmpR op_ge (pv 3) (pv 0) (nomark _))))))) pss_never pss_nil)
        (pss_one (ps_if (PW.pt (pw_or (pt_cmpR op_lt (pv 4) (pe_un un_neg (pe_glob (v := .int 1000000) rfl m3 ⟨_, rfl⟩)) (nomark _)) (pw_or (pt_cmpR op_gt (pv 5) (pe_glob (v := .int 1000000) rfl m3 ⟨_, rfl⟩) (nomark _)) (pw_or1 (pt_cmpR op_gt (pv 4) (pv 5) (nomark _)))))) pss_never pss_nil))))), ?_⟩
    have k1 := ok.lo
    have k2 := ok.hi
    have k3 := ok.len
    obtain ⟨ts, hT, hR⟩ := hD
    have hl := hR.length
    -- the first test
    refine ⟨_, rfl, _, _, rfl, rfl, _, rfl, ifN (by omega) ?_⟩
    refine ⟨_, rfl, _, _, rfl, rfl, _, rfl, ifN (by omega) ?_⟩
    refine ⟨_, rfl, D, _, rfl, .inr (SqT.of hT), _, _, rfl, rfl, _, rfl, ifN (by rw [List.length_map]; omega) ?_⟩
    -- the loop
    refine ⟨_, rfl, D, rfl, ⟨_, SqT.of hT⟩, for_tup (K := K) (a := D) (xs := ts.map V.ref) (fun i σ H' => ∃ y2 y3 y4 y5, σ = [some (.int n), some (.ref D), y2, y3, y4, y5] ∧ H' = H)
      ⟨_, _, _, _, rfl, rfl⟩ (fun i σ H' _ ⟨_, _, _, _, _, e⟩ => by rw [e]; exact SqT.of hT) ?_ ?_⟩
    · rintro i x σ H' hi ⟨y2, y3, y4, y5, rfl, rfl⟩
      obtain ⟨t, ht, rfl⟩ := ref_at hi
      obtain ⟨d, hd, hdt⟩ := hR.at ht
      have hm : d ∈ ds := List.mem_of_getElem? hd
      have b := ok.bnd d hm
      have v := ok.iv d hm
      refine ⟨t, _, rfl, SqT.of hdt, rfl, _, _, rfl, _, _, rfl, _, _, rfl, _, _, rfl, rfl, ?_⟩
      refine ⟨_, rfl, _, _, rfl, rfl, _, rfl, ifN (by omega) ?_⟩
      refine ⟨_, rfl, _, rfl, _, _, rfl, rfl, _, rfl, ifN (by omega) ?_⟩
      refine ⟨_, rfl, _, _, rfl, rfl, _, rfl, ifN (by omega) ?_⟩
      refine ⟨_, rfl, _, rfl, _, _, rfl, rfl, _, rfl, ifN (by omega) ?_⟩
      refine ⟨_, rfl, _, rfl, _, _, rfl, rfl, _, rfl, ifN (by omega) ?_⟩
      refine ⟨_, rfl, _, _, rfl, rfl, _, rfl, ifN (by omega) ?_⟩
      refine ⟨_, rfl, _, rfl, _, _, rfl, rfl, _, rfl, ifN (by omega) ?_⟩
      exact ⟨_, _, _, _, rfl, rfl⟩
    · rintro σ H' ⟨y2, y3, y4, y5, rfl, rfl⟩
      exact q
theorem ok_lims {f : Addr} {fd : FuncData} (F : Fun K "limits_of" "limits_of" sLims f fd) (ml : mg "len" = none) (mr : mg "range" = none) : FnOk P w K mg base CX0 1 f fd ["distances"] spLims := by
  refine F.ok scLims (fun vs H Q E h => ?_) (fun cdv A outer s H vs Q E hr h => ?_)
  · obtain ⟨D, ds, rfl, _⟩ := h
    rfl
  · obtain ⟨D, ds, rfl, hD, len, q⟩ := h
    refine ⟨_, pss_cons (ps_set (i := 1) scLims.nd rfl (.inl rfl) (pe_lst pa_nil))
      (pss_cons (ps_for PassesOwn.never rfl (pi_range1 rfl mr (pa_cons (pe_callB call_len_seq (by rfl) ml PySem.boot_len (pa_cons (pv 0) pa_nil)) pa_nil)) (pg_name (i := 2) scLims.nd rfl (.inl rfl))
        (pss_cons (ps_asg (pe_ix ix_tup (pv 0) (pv 2) (fun _ _ => rfl)) (pg_tup (by rfl) (pgs_cons (pg_name (i := 3) scLims.nd rfl (.inl rfl)) (pgs_cons (pg_name (i := 4) scLims.nd rfl (.inl rfl)) (pgs_cons (pg_name (i := 5) scLims.nd rfl (.inl rfl)) (pgs_cons (pg_name (i := 6) scLims.nd rfl (.inl rfl)) pgs_nil))))))
        (pss_cons (ps_expr (pe_bm PySem.F.plainAttrs_list PySem.F.slot_list_append PySem.F.type_list_append mt_append (pv 1) (pa_cons (pe_tup (pa_cons (pv 3) (pa_cons (pv 4) (pa_cons (pv 6) (pa_cons (pv 2) (pa_cons pe_str pa_nil)))))) pa_nil)))
        (pss_one (ps_expr (pe_bm PySem.F.plainAttrs_list PySem.F.slot_list_append PySem.F.type_list_append mt_append (pv 1) (pa_cons (pe_tup (pa_cons (pv 4) (pa_cons (pv 3) (pa_cons (pe_un un_neg (pv 5)) (pa_cons (pv 2) (pa_cons pe_str pa_nil)))))) pa_nil)))))))
      (pss_one (ps_ret (pv 1)))), ?_⟩
    have hl : ds.length = ds.length := rfl
    -- limits = []
    refine ⟨Nat.zero_le _, fun L nL => ?_⟩
    have s1 : Same H (upd H L (.lst [])) := same_upd nL
    obtain ⟨ts, hT, hR⟩ := hD
    have hlen := hR.length
    -- range(len(distances))
    refine ⟨_, rfl, D, _, rfl, .inr (SqT.of (s1 _ _ hT)), ((ts.map V.ref).length : Nat), rfl, by omega, by rw [List.length_map]; omega, ?_⟩
    refine for_range (lo := 0) (n := ((ts.map V.ref).length : Int).toNat) (fun i σ H' => ∃ y2 y3 y4 y5 y6, σ = [some (.ref D), some (.ref L), y2, y3, y4, y5, y6] ∧ Same H H' ∧ ∃ us : List Addr, H' L = some (.lst (us.map V.ref)) ∧ Rows (LimT H') us (limsOf (ds.take i)))
      ⟨_, _, _, _, _, rfl, s1, [], upd_same, trivial⟩ ?_ ?_
    · rintro i σ H' hi ⟨y2, y3, y4, y5, y6, rfl, sm, us, hus, hur⟩
      have hi' : i < ds.length := by
        rw [List.length_map] at hi
        omega
      have hd := List.getElem?_eq_getElem hi'
      obtain ⟨t, ht, hdt⟩ := hR.get hd
      have hx : (ts.map V.ref)[i]? = some (.ref t) := by rw [List.getElem?_map, ht]; rfl
      have hul := hur.length
      rw [limsOf_length, List.length_take] at hul
      -- i, j, low, high = distances[k]
      refine ⟨_, rfl, _, rfl, D, _, 0 + (i : Int), _, rfl, rfl, SqT.of (sm _ _ hT), by rw [Int.zero_add]; exact atI_nat hx, t, _, rfl, SqT.of (sm _ _ hdt), rfl, _, _, rfl, _, _, rfl, _, _, rfl, _, _, rfl, rfl, ?_⟩
      -- limits.append((i, j, high, k, "high"))
      refine ⟨_, rfl, .inl ⟨rfl, _, SqL.of hus⟩, _, rfl, _, rfl, _, rfl, _, rfl, smallE (by show 5 ≤ 10000; decide), fun p1 n1 => ?_⟩
      refine ⟨L, _, _, rfl, rfl, same_upd n1 _ _ hus, by rw [List.length_map]; exact small (by omega), ?_⟩
      have pL1 : p1 ≠ L := (ne_of_none hus n1).symm
      -- limits.append((j, i, -low, k, "low"))
      refine ⟨_, rfl, .inl ⟨rfl, _, SqL.of upd_same⟩, _, rfl, _, rfl, _, rfl, _, rfl, _, rfl, smallE (by show 5 ≤ 10000; decide), fun p2 n2 => ?_⟩
      have pL2 : p2 ≠ L := fun z => by rw [z, upd_same] at n2; cases n2
      rw [upd_ne pL2] at n2
      have p12 : p1 ≠ p2 := fun z => by rw [← z, upd_same] at n2; cases n2
      rw [upd_ne p12.symm] at n2
      refine ⟨L, _, _, rfl, rfl, by rw [upd_ne pL2.symm]; exact upd_same, by rw [List.length_append, List.length_map]; exact small (by show us.length + 1 ≤ 10000; omega), ?_⟩
      have keep : ∀ b o, b ≠ L → H' b = some o → upd (upd (upd (upd H' p1 (.tup [.int ds[i].i, .int ds[i].j, .int ds[i].hi, .int (0 + (i : Int)), .str "high"])) L (.lst (us.map V.ref ++ [.ref p1]))) p2 (.tup [.int ds[i].j, .int ds[i].i, .int (-ds[i].lo), .int (0 + (i : Int)), .str "low"])) L (.lst (us.map V.ref ++ [.ref p1] ++ [.ref p2])) b = some o := fun b o nb e => by
        rw [upd_ne nb, upd_ne (ne_of_none e n2), upd_ne nb, upd_ne (ne_of_none e n1)]
        exact e
      refine ⟨_, _, _, _, _, rfl, fun b o e => keep b o (ne_of_none e nL) (sm b o e), us ++ [p1] ++ [p2], ?_, ?_⟩
      · rw [upd_same, List.map_append, List.map_append]
        rfl
      · rw [limsOf_take hd, show limsOf (ds.take i) ++ [(ds[i].i, ds[i].j, ds[i].hi), (ds[i].j, ds[i].i, -ds[i].lo)] = limsOf (ds.take i) ++ [(ds[i].i, ds[i].j, ds[i].hi)] ++ [(ds[i].j, ds[i].i, -ds[i].lo)] by simp]
        refine Rows.snoc ⟨0 + (i : Int), "low", ?_⟩ (Rows.snoc ⟨0 + (i : Int), "high", ?_⟩ (hur.mono fun t e ⟨k, z, q⟩ => ⟨k, z, keep _ _ (ne_of q hus (by intro z; cases z)) q⟩))
        · rw [upd_ne pL2, upd_same]
        · rw [upd_ne pL1, upd_ne p12, upd_ne pL1, upd_same]
    · rintro σ H' ⟨y2, y3, y4, y5, y6, rfl, sm, us, hus, hur⟩
      have e : ds.take ((ts.map V.ref).length : Int).toNat = ds := List.take_of_length_le (by rw [List.length_map]; omega)
      rw [e] at hur
      exact ⟨_, rfl, q H' L sm nL ⟨us, hus, hur⟩⟩
end
end Ts
/-! TsB: relaxed, least_sums. -/
namespace Ts
open PySem PySem.Spec PyProof.Rows L2 TsM
theorem scRelax : FnScope ["limits", "positions", "came", "last", "limit", "i", "j", "total"] ["limits", "positions", "came"] (defScope sRelax) := ⟨rfl, rfl, rfl, by decide +kernel, rfl, by decide +kernel, by decide +kernel⟩
theorem scLeast : FnScope ["count", "limits", "start", "sums", "k", "limit", "i", "j", "total"] ["count", "limits", "start"] (defScope sLeast) := ⟨rfl, rfl, rfl, by decide +kernel, rfl, by decide +kernel, by decide +kernel⟩
/-- what a place of came holds -/
def CV (H : Hp) (v : V) : Option Lim → Prop
  | none => v = .non
  | some e => ∃ t, v = .ref t ∧ LimT H t e
structure PAt (H : Hp) (n : Nat) (Pa Ca : Addr) (s : PSt) : Prop where
  p : H Pa = some (.lst (tab n fun v => .int (s.p v)))
  c : ∃ cv : Nat → V, H Ca = some (.lst (tab n cv)) ∧ ∀ v, v < n → CV H (cv v) (s.c v)
theorem CV.mono {H H' : Hp} (f : ∀ t e, LimT H t e → LimT H' t e) {v : V} : ∀ {o : Option Lim}, CV H v o → CV H' v o
  | none, h => h
  | some e, ⟨t, h1, h2⟩ => ⟨t, h1, f t e h2⟩
theorem LimT.upd {H : Hp} {t b : Addr} {e : Lim} {xs : List V} {o : HO} (hb : H b = some (.lst xs)) (h : LimT H t e) : LimT (upd H b o) t e := by
  obtain ⟨k, z, q⟩ := h
  exact ⟨k, z, by rw [upd_ne (ne_of q hb (by intro z; cases z))]; exact q⟩
theorem LimT.same {H H' : Hp} {t : Addr} {e : Lim} (s : Same H H') (h : LimT H t e) : LimT H' t e := by
  obtain ⟨k, z, q⟩ := h
  exact ⟨k, z, s _ _ q⟩
theorem put_map {α β : Type} (f : α → β) (s : Nat → α) (j : Nat) (x : α) : put (fun v => f (s v)) j (f x) = fun v => f (put s j x v) := by
  funext v
  by_cases z : v = j
  · rw [z, put_same, put_same]
  · rw [put_ne z, put_ne z]
theorem cut3 (a b c d e : V) : cutV [a, b, c, d, e] none (some 3) = [a, b, c] := rfl
theorem nocut3 (a b c d e : V) : ¬ (HT.sIx [a, b, c, d, e].length 0 none = 0 ∧ HT.sIx [a, b, c, d, e].length [a, b, c, d, e].length (some 3) = [a, b, c, d, e].length) := by
  show ¬ (HT.sIx 5 0 none = 0 ∧ HT.sIx 5 5 (some 3) = 5)
  decide
theorem foldl_more {α β : Type} {f : β → α → β} {b : β} {l : List α} {i : Nat} {x : α} (h : l[i]? = some x) : (l.take (i + 1)).foldl f b = f ((l.take i).foldl f b) x := by
  rw [take_more h, List.foldl_append]
  rfl
def spRelax : Sp := fun vs H Q _ => ∃ (L Pa Ca : Addr) (n : Nat) (ls : List Lim) (s0 : PSt), vs = [.ref L, .ref Pa, .ref Ca] ∧ LsAt H L ls ∧ Bnd n ls ∧ PAt H n Pa Ca s0 ∧ Pa ≠ Ca ∧ L ≠ Pa ∧ L ≠ Ca ∧ s0.last = none ∧
  ∀ H', Same2 Pa Ca H H' → PAt H' n Pa Ca (ls.foldl stepC s0) → Q (nV (ls.foldl stepC s0).last) H'
def spLeast : Sp := fun vs H Q _ => ∃ (n : Nat) (L : Addr) (i : Nat) (ls : List Lim), vs = [.int n, .ref L, .int i] ∧ LsAt H L ls ∧ Bnd n ls ∧ i < n ∧ n ≤ 60 ∧
  ∀ H' S, Same H H' → H' S = some (.lst (tab n fun v => oV (sums n ls i v))) → Q (.ref S) H'
section
variable {P : Program} {w : World} {K : PySem.W.Frag} {mg : Str → Option Value} {base : Heap}
theorem ok_relax {f : Addr} {fd : FuncData} (F : Fun K "relaxed" "relaxed" sRelax f fd) : FnOk P w K mg base CX0 1 f fd ["limits", "positions", "came"] spRelax := by
  refine F.ok scRelax (fun vs H Q E h => ?_) (fun cdv A outer s H vs Q E hr h => ?_)
  · obtain ⟨L, Pa, Ca, n, ls, s0, rfl, _⟩ := h
    rfl
  · obtain ⟨L, Pa, Ca, n, ls, s0, rfl, hL, hB, hP, nPC, nLP, nLC, h0, q⟩ := h
    refine ⟨_, pss_cons (ps_set (i := 3) scRelax.nd rfl (.inl rfl) pe_non)
      (pss_cons (ps_for PassesOwn.never rfl (pi_list (pv 0)) (pg_name (i := 4) scRelax.nd rfl (.inl rfl))
        (pss_cons (ps_asg (pe_slice sl_tup (pv 4) po_none (po_some pe_int)) (pg_tup (by rfl) (pgs_cons (pg_name (i := 5) scRelax.nd rfl (.inl rfl)) (pgs_cons (pg_name (i := 6) scRelax.nd rfl (.inl rfl)) (pgs_cons (pg_name (i := 7) scRelax.nd rfl (.inl rfl)) pgs_nil)))))
        (pss_one (ps_if (pt_cmpR op_lt (pe_op op_add (pe_ix ix_list (pv 1) (pv 5) (fun _ _ => rfl)) (pv 7)) (pe_ix ix_list (pv 1) (pv 6) (fun _ _ => rfl)) (nomark _))
          (pss_cons (ps_asg (pe_op op_add (pe_ix ix_list (pv 1) (pv 5) (fun _ _ => rfl)) (pv 7)) (pg_sub (pv 1) (pv 6) set_list))
          (pss_cons (ps_asg (pv 4) (pg_sub (pv 2) (pv 6) set_list))
          (pss_one (ps_set (i := 3) scRelax.nd rfl (.inl rfl) (pv 6))))) pss_nil))))
      (pss_one (ps_ret (pv 3)))), ?_⟩
    obtain ⟨ts, hT, hR⟩ := hL
    have hlen := hR.length
    -- the loop
    refine ⟨_, rfl, L, rfl, ⟨_, SqL.of hT⟩, for_list (K := K) (a := L) (xs := ts.map V.ref) (fun i σ H' => ∃ y4 y5 y6 y7, σ = [some (.ref L), some (.ref Pa), some (.ref Ca), some (nV ((ls.take i).foldl stepC s0).last), y4, y5, y6, y7] ∧ Same2 Pa Ca H H' ∧ PAt H' n Pa Ca ((ls.take i).foldl stepC s0))
      ⟨_, _, _, _, by rw [List.take_zero, List.foldl_nil, h0]; rfl, fun _ _ _ _ e => e, hP⟩ (fun i σ H' _ ⟨_, _, _, _, _, e, _⟩ => SqL.of (e _ _ nLP nLC hT)) ?_ ?_⟩
    · rintro i x σ H' hi ⟨y4, y5, y6, y7, rfl, sm, pa⟩
      obtain ⟨t, ht, rfl⟩ := ref_at hi
      obtain ⟨e, he, k0, z0, het⟩ := hR.at ht
      have hm : e ∈ ls := List.mem_of_getElem? he
      obtain ⟨b1, b2⟩ := hB e hm
      rw [foldl_more he]
      generalize (ls.take i).foldl stepC s0 = c at *
      obtain ⟨hp, cv, hc, hcv⟩ := pa
      have hP0 := hP.p
      obtain ⟨cv0, hC0, _⟩ := hP.c
      have het' : H' t = some (.tup [.int e.1, .int e.2.1, .int e.2.2, .int k0, .str z0]) := sm _ _ (ne_of het hP0 (by intro z; cases z)) (ne_of het hC0 (by intro z; cases z)) het
      -- i, j, total = limit[:3]
      refine ⟨_, rfl, 3, rfl, t, _, rfl, SqT.of het', nocut3 _ _ _ _ _, fun u nu => ?_⟩
      have su : Same H' (upd H' u (.tup [.int e.1, .int e.2.1, .int e.2.2])) := same_upd nu
      refine ⟨u, _, rfl, SqT.of upd_same, rfl, _, _, rfl, _, _, rfl, _, _, rfl, rfl, ?_⟩
      have hp1 := su _ _ hp
      have hc1 := su _ _ hc
      have het1 := su _ _ het'
      -- the test
      refine ⟨_, rfl, _, rfl, Pa, _, _, _, rfl, rfl, SqL.of hp1, tab_at b1, _, rfl, _, _, rfl, rfl, _, rfl, _, rfl, Pa, _, _, _, rfl, rfl, SqL.of hp1, tab_at b2, _, _, rfl, rfl, _, rfl, if2 (fun q1 => ?_) (fun q1 => ?_)⟩
      · -- lowered
        have es : stepC c e = _ := if_pos q1
        rw [es]
        refine ⟨_, rfl, _, rfl, Pa, _, _, _, rfl, rfl, SqL.of hp1, tab_at b1, _, rfl, _, _, rfl, rfl, _, rfl, _, rfl, Pa, _, _, _, rfl, rfl, hp1, by rw [tab_length]; exact ixN_nat b2, ?_⟩
        have hc2 := (upd_ne (o := .lst ((tab n fun v => V.int (c.p v)).set e.2.1 (.int (c.p e.1 + e.2.2)))) nPC.symm).trans hc1
        refine ⟨_, rfl, _, rfl, _, rfl, Ca, _, _, _, rfl, rfl, hc2, by rw [tab_length]; exact ixN_nat b2, ?_⟩
        refine ⟨_, rfl, ?_⟩
        have lim : ∀ t' e', LimT H' t' e' → LimT (upd (upd (upd H' u (.tup [.int e.1, .int e.2.1, .int e.2.2])) Pa (.lst ((tab n fun v => V.int (c.p v)).set e.2.1 (.int (c.p e.1 + e.2.2))))) Ca (.lst ((tab n cv).set e.2.1 (.ref t)))) t' e' := fun t' e' h =>
          LimT.upd hc2 (LimT.upd hp1 (LimT.same su h))
        refine ⟨_, _, _, _, rfl, fun b o nb1 nb2 hb => ?_, ?_, ?_⟩
        · rw [upd_ne nb2, upd_ne nb1]
          exact su _ _ (sm _ _ nb1 nb2 hb)
        · rw [upd_ne nPC, upd_same, tab_set]
          exact congrArg (fun g => some (HO.lst (tab n g))) (put_map V.int c.p _ _)
        · refine ⟨put cv e.2.1 (.ref t), by rw [upd_same, tab_set], fun v hv => ?_⟩
          by_cases z : v = e.2.1
          · show CV _ _ (put c.c e.2.1 (some e) v)
            rw [z, put_same, put_same]
            exact ⟨t, rfl, lim t e ⟨k0, z0, het'⟩⟩
          · show CV _ _ (put c.c e.2.1 (some e) v)
            rw [put_ne z, put_ne z]
            exact (hcv v hv).mono lim
      · have es : stepC c e = c := if_neg q1
        rw [es]
        exact ⟨_, _, _, _, rfl, fun b o nb1 nb2 hb => su _ _ (sm _ _ nb1 nb2 hb), hp1, cv, hc1, fun v hv => (hcv v hv).mono fun _ _ h => LimT.same su h⟩
    · rintro σ H' ⟨y4, y5, y6, y7, rfl, sm, pa⟩
      rw [List.length_map, hlen, List.take_length] at pa ⊢
      exact ⟨_, rfl, q H' sm pa⟩
theorem dN {i : Int} : decide (V.int i = V.non) = false := decide_eq_false (by intro z; cases z)
theorem ok_least {f : Addr} {fd : FuncData} (F : Fun K "least_sums" "least_sums" sLeast f fd) (mr : mg "range" = none) : FnOk P w K mg base CX0 1 f fd ["count", "limits", "start"] spLeast := by
  refine F.ok scLeast (fun vs H Q E h => ?_) (fun cdv A outer s H vs Q E hr h => ?_)
  · obtain ⟨n, L, i, ls, rfl, _⟩ := h
    rfl
  · obtain ⟨n, L, i0, ls, rfl, hL, hB, hi0, hn, q⟩ := h
    refine ⟨_, pss_cons (ps_set (i := 3) scLeast.nd rfl (.inl rfl) (pe_op op_rep (pe_lst (pa_cons pe_non pa_nil)) (pv 0)))
      (pss_cons (ps_asg pe_int (pg_sub (pv 3) (pv 2) set_list))
      (pss_cons (ps_for PassesOwn.never rfl (pi_range1 rfl mr (pa_cons (pv 0) pa_nil)) (pg_name (i := 4) scLeast.nd rfl (.inl rfl))
        (pss_one (ps_for PassesOwn.never rfl (pi_list (pv 1)) (pg_name (i := 5) scLeast.nd rfl (.inl rfl))
          (pss_cons (ps_asg (pe_slice sl_tup (pv 5) po_none (po_some pe_int)) (pg_tup (by rfl) (pgs_cons (pg_name (i := 6) scLeast.nd rfl (.inl rfl)) (pgs_cons (pg_name (i := 7) scLeast.nd rfl (.inl rfl)) (pgs_cons (pg_name (i := 8) scLeast.nd rfl (.inl rfl)) pgs_nil)))))
          (pss_one (ps_if (PW.pt (pw_and (pt_cmpR op_notN (pe_ix ix_list (pv 3) (pv 6) (fun _ _ => rfl)) pe_non (nomark _))
              (pw_and1 (PW.pt (pw_or (pt_cmpR op_isN (pe_ix ix_list (pv 3) (pv 7) (fun _ _ => rfl)) pe_non (nomark _))
                (pw_or1 (pt_cmpR op_lt (pe_op op_add (pe_ix ix_list (pv 3) (pv 6) (fun _ _ => rfl)) (pv 8)) (pe_ix ix_list (pv 3) (pv 7) (fun _ _ => rfl)) (nomark _))))))))
            (pss_one (ps_asg (pe_op op_add (pe_ix ix_list (pv 3) (pv 6) (fun _ _ => rfl)) (pv 8)) (pg_sub (pv 3) (pv 7) set_list))) pss_nil))))))
      (pss_one (ps_ret (pv 3))))), ?_⟩
    obtain ⟨ts, hT, hR⟩ := hL
    have hlen := hR.length
    -- sums = [None] * count; sums[start] = 0
    refine ⟨smallE (by show 1 ≤ 10000; decide), fun l nl => ⟨_, rfl, l, _, _, rfl, rfl, upd_same, by omega, by omega, smallE (by show 1 * (n : Int).toNat ≤ 10000; omega), fun S nS => ?_⟩⟩
    refine ⟨_, rfl, _, rfl, S, _, _, _, rfl, rfl, upd_same, by rw [Int.toNat_natCast, rep_tab, tab_length]; exact ixN_nat hi0, ?_⟩
    have nSl : S ≠ l := fun z => by rw [z, upd_same] at nS; cases nS
    rw [upd_ne nSl] at nS
    have eS : ((List.replicate (n : Int).toNat [V.non]).flatten.set i0 (.int 0)) = tab n fun v => oV (from0 i0 v) := by
      rw [Int.toNat_natCast, rep_tab, tab_set]
      exact congrArg (tab n) (put_map oV (fun _ => none) i0 (some 0))
    rw [eS]
    have s0 : Same H (upd (upd (upd H l (.lst [.non])) S (.lst (List.replicate (n : Int).toNat [V.non]).flatten)) S (.lst (tab n fun v => oV (from0 i0 v)))) := fun b o hb => by
      rw [upd_ne (ne_of_none hb nS), upd_ne (ne_of_none hb nS), upd_ne (ne_of_none hb nl)]
      exact hb
    -- the rounds
    refine ⟨_, rfl, (n : Int), rfl, by omega, by omega, ?_⟩
    refine for_range (lo := 0) (n := (n : Int).toNat) (fun k σ H' => ∃ y4 y5 y6 y7 y8, σ = [some (.int n), some (.ref L), some (.int i0), some (.ref S), y4, y5, y6, y7, y8] ∧ Same H H' ∧ H' S = some (.lst (tab n fun v => oV (rounds ls k (from0 i0) v))))
      ⟨_, _, _, _, _, rfl, s0, upd_same⟩ ?_ ?_
    · rintro k σ H' hk ⟨y4, y5, y6, y7, y8, rfl, sm, hS⟩
      refine ⟨_, rfl, L, rfl, ⟨_, SqL.of (sm _ _ hT)⟩, for_list (K := K) (a := L) (xs := ts.map V.ref) (fun i σ H' => ∃ y4 y5 y6 y7 y8, σ = [some (.int n), some (.ref L), some (.int i0), some (.ref S), y4, y5, y6, y7, y8] ∧ Same H H' ∧ H' S = some (.lst (tab n fun v => oV ((ls.take i).foldl stepS (rounds ls k (from0 i0)) v))))
        ⟨_, _, _, _, _, rfl, sm, hS⟩ (fun i σ H' _ ⟨_, _, _, _, _, _, e, _⟩ => SqL.of (e _ _ hT)) ?_ ?_⟩
      · rintro i x σ H' hi ⟨y4, y5, y6, y7, y8, rfl, sm, hS⟩
        obtain ⟨t, ht, rfl⟩ := ref_at hi
        obtain ⟨e, he, k0, z0, het⟩ := hR.at ht
        have hm : e ∈ ls := List.mem_of_getElem? he
        obtain ⟨b1, b2⟩ := hB e hm
        rw [foldl_more he]
        generalize (ls.take i).foldl stepS (rounds ls k (from0 i0)) = c at *
        -- i, j, total = limit[:3]
        refine ⟨_, rfl, 3, rfl, t, _, rfl, SqT.of (sm _ _ het), nocut3 _ _ _ _ _, fun u nu => ?_⟩
        have su : Same H' (upd H' u (.tup [.int e.1, .int e.2.1, .int e.2.2])) := same_upd nu
        refine ⟨u, _, rfl, SqT.of upd_same, rfl, _, _, rfl, _, _, rfl, _, _, rfl, rfl, ?_⟩
        have hS1 := su _ _ hS
        have sm1 := sm.trans su
        have nSH := nS
        -- the test
        refine ⟨_, rfl, _, rfl, S, _, _, _, rfl, rfl, SqL.of hS1, tab_at b1, rfl, _, rfl, ?_⟩
        have store : ∀ a : Int, c e.1 = some a → stepS c e = put c e.2.1 (some (a + e.2.2)) →
            tAsg (tOp (rI0 fun i j => .int (i + j)) (tOp (rIxL K) (tVar 3) (tVar 6)) (tVar 8)) (gSub (tVar 3) (tVar 7) rSetL)
              { nx := fun σ H' => ∃ y4 y5 y6 y7 y8, σ = [some (.int n), some (.ref L), some (.int i0), some (.ref S), y4, y5, y6, y7, y8] ∧ Same H H' ∧ H' S = some (.lst (tab n fun v => oV (stepS c e v))),
                rt := fun _ _ => False, bk := fun _ _ => False, ct := fun _ _ => False }
              [some (.int n), some (.ref L), some (.int i0), some (.ref S), y4, some (.ref t), some (.int e.1), some (.int e.2.1), some (.int e.2.2)] (upd H' u (.tup [.int e.1, .int e.2.1, .int e.2.2])) := by
          intro a ha es
          refine ⟨_, rfl, _, rfl, S, _, _, _, rfl, rfl, SqL.of hS1, tab_at b1, _, rfl, a, _, by rw [ha]; rfl, rfl, _, rfl, _, rfl, S, _, _, _, rfl, rfl, hS1, by rw [tab_length]; exact ixN_nat b2, ?_⟩
          refine ⟨_, _, _, _, _, rfl, fun b o hb => ?_, ?_⟩
          · rw [upd_ne (ne_of_none hb nSH)]
            exact sm1 _ _ hb
          · rw [upd_same, tab_set, es]
            exact congrArg (fun g => some (HO.lst (tab n g))) (put_map oV c e.2.1 (some (a + e.2.2)))
        cases h1 : c e.1 with
        | none =>
          have es : stepS c e = c := by simp only [stepS, h1]
          rw [show (!decide (oV none = V.non)) = false from rfl, es]
          exact iteF (iteF ⟨_, _, _, _, _, rfl, sm1, hS1⟩)
        | some a =>
          rw [show oV (some a) = V.int a from rfl, dN]
          refine iteT ?_
          refine ⟨_, rfl, _, rfl, S, _, _, _, rfl, rfl, SqL.of hS1, tab_at b2, rfl, _, rfl, ?_⟩
          cases h2 : c e.2.1 with
          | none =>
            rw [show decide (oV none = V.non) = true from rfl]
            exact iteT (iteT (store a h1 (by simp only [stepS, h1, h2])))
          | some b =>
            rw [show oV (some b) = V.int b from rfl, dN]
            refine iteF ?_
            refine ⟨_, rfl, _, rfl, S, _, _, _, rfl, rfl, SqL.of hS1, tab_at b1, _, rfl, a, _, by rw [h1]; rfl, rfl, _, rfl, _, rfl, S, _, _, _, rfl, rfl, SqL.of hS1, tab_at b2, _, b, rfl, by rw [h2]; rfl, _, rfl, if2 (fun q1 => ?_) (fun q1 => ?_)⟩
            · exact store a h1 (by simp only [stepS, h1, h2, if_pos q1])
            · have es : stepS c e = c := by simp only [stepS, h1, h2, if_neg q1]
              rw [es]
              exact ⟨_, _, _, _, _, rfl, sm1, hS1⟩
      · rintro σ H' ⟨y4, y5, y6, y7, y8, rfl, sm, hS⟩
        rw [List.length_map, hlen, List.take_length] at hS
        exact ⟨_, _, _, _, _, rfl, sm, hS⟩
    · rintro σ H' ⟨y4, y5, y6, y7, y8, rfl, sm, hS⟩
      rw [Int.toNat_natCast] at hS
      exact ⟨_, rfl, q H' S sm hS⟩
end
end Ts
/-! TsC: ring_from, placed. -/
namespace Ts
open PySem PySem.Spec PyProof.Rows L2 TsM
theorem scRing : FnScope ["count", "came", "mark", "k", "ring", "at", "limit"] ["count", "came", "mark"] (defScope sRing) := ⟨rfl, rfl, rfl, by decide +kernel, rfl, by decide +kernel, by decide +kernel⟩
theorem scPlaced : FnScope ["count", "distances", "limits", "positions", "came", "last", "k"] ["count", "distances"] (defScope sPlaced) := ⟨rfl, rfl, rfl, by decide +kernel, rfl, by decide +kernel, by decide +kernel⟩
def spRing : Sp := fun vs H Q _ => ∃ (n : Nat) (Ca : Addr) (m d : Nat) (cv : Nat → V) (c : Nat → Option Lim), vs = [.int n, .ref Ca, .int m] ∧ n ≤ 60 ∧ H Ca = some (.lst (tab n cv)) ∧ (∀ v, v < n → CV H (cv v) (c v)) ∧
  (∀ t, bk c t m < n) ∧ (∀ t, ∃ e, c (bk c t m) = some e) ∧ 1 ≤ d ∧ d ≤ n ∧ bk c (n + d) m = bk c n m ∧ ∀ H' r, Same H H' → Q (.ref r) H'
def spPlaced : Sp := fun vs H Q _ => ∃ (n : Nat) (D : Addr) (ds : List Dist), vs = [.int n, .ref D] ∧ DsAt H D ds ∧ DsOk n ds ∧
  (Feas (limsOf ds) → ∀ H' r x, Same H H' → H' r = some (.tup [.str "positions", x]) → Q (.ref r) H') ∧
  (¬ Feas (limsOf ds) → ∀ H' r x, Same H H' → H' r = some (.tup [.str "ring", x]) → Q (.ref r) H')
section
variable {P : Program} {w : World} {K : PySem.W.Frag} {mg : Str → Option Value} {base : Heap}
theorem ok_ring {f : Addr} {fd : FuncData} (F : Fun K "ring_from" "ring_from" sRing f fd) (mr : mg "range" = none) (ml : mg "len" = none) (mt : mg "tuple" = none) : FnOk P w K mg base CX0 1 f fd ["count", "came", "mark"] spRing := by
  refine F.ok scRing (fun vs H Q E h => ?_) (fun cdv A outer s H vs Q E hr h => ?_)
  · obtain ⟨n, Ca, m, d, cv, c, rfl, _⟩ := h
    rfl
  · obtain ⟨n, Ca, m, d, cv, c, rfl, hn, hC, hcv, hlt, hso, hd1, hdn, hring, q⟩ := h
    refine ⟨_, pss_cons (ps_for PassesOwn.never rfl (pi_range1 rfl mr (pa_cons (pv 0) pa_nil)) (pg_name (i := 3) scRing.nd rfl (.inl rfl))
        (pss_one (ps_set (i := 2) scRing.nd rfl (.inl rfl) (pe_ix ix_tup (pe_ix ix_list (pv 1) (pv 2) (fun _ _ => rfl)) pe_int (fun _ _ => rfl)))))
      (pss_cons (ps_set (i := 4) scRing.nd rfl (.inl rfl) (pe_lst pa_nil))
      (pss_cons (ps_set (i := 5) scRing.nd rfl (.inl rfl) (pv 2))
      (pss_cons (ps_while PassesOwn.never (PW.pt (pw_or (pt_cmpR op_eq (pe_callB call_len_seq (by rfl) ml PySem.boot_len (pa_cons (pv 4) pa_nil)) pe_int (nomark _)) (pw_or1 (pt_cmpR op_ne (pv 5) (pv 2) (nomark _)))))
        (pss_cons (ps_set (i := 6) scRing.nd rfl (.inl rfl) (pe_ix ix_list (pv 1) (pv 5) (fun _ _ => rfl)))
        (pss_cons (ps_expr (pe_bm PySem.F.plainAttrs_list PySem.F.slot_list_append PySem.F.type_list_append mt_append (pv 4) (pa_cons (pe_tup (pa_cons (pe_ix ix_tup (pv 6) pe_int (fun _ _ => rfl)) (pa_cons (pe_ix ix_tup (pv 6) pe_int (fun _ _ => rfl)) (pa_cons (pe_ix ix_tup (pv 6) pe_int (fun _ _ => rfl)) pa_nil)))) pa_nil)))
        (pss_one (ps_set (i := 5) scRing.nd rfl (.inl rfl) (pe_ix ix_tup (pv 6) pe_int (fun _ _ => rfl)))))))
      (pss_one (ps_ret (pe_callTy call_tuple_of (by rfl) mt (by decide +kernel) (pa_cons (pe_revL (pv 4)) pa_nil))))))), ?_⟩
    -- where a step leads
    have step : ∀ (H' : Hp), Same H H' → ∀ t, ∃ (T : Addr) (e : Lim) (k : Int) (z : Str), c (bk c t m) = some e ∧ cv (bk c t m) = .ref T ∧ H' T = some (.tup [.int e.1, .int e.2.1, .int e.2.2, .int k, .str z]) ∧ e.1 = bk c (t + 1) m := by
      intro H' sm t
      obtain ⟨e, he⟩ := hso t
      have h1 := hcv _ (hlt t)
      rw [he] at h1
      obtain ⟨T, hT, k, z, hk⟩ := h1
      exact ⟨T, e, k, z, he, hT, sm _ _ hk, (back_of he).symm⟩
    -- for k in range(count)
    refine ⟨_, rfl, (n : Int), rfl, by omega, by omega, ?_⟩
    refine for_range (lo := 0) (n := (n : Int).toNat) (fun k σ H' => ∃ y3 y4 y5 y6, σ = [some (.int n), some (.ref Ca), some (.int (bk c k m : Nat)), y3, y4, y5, y6] ∧ H' = H)
      ⟨_, _, _, _, rfl, rfl⟩ ?_ ?_
    · rintro k σ H' hk ⟨y3, y4, y5, y6, rfl, rfl⟩
      obtain ⟨T, e, k1, z, he, hT, hTT, hnx⟩ := step H' (Same.refl H') k
      refine ⟨_, rfl, _, rfl, Ca, _, _, _, rfl, rfl, SqL.of hC, tab_at (hlt k), T, _, 0, .int e.1, hT, rfl, SqT.of hTT, atI_nat (j := 0) rfl, ?_⟩
      exact ⟨_, y4, y5, y6, by rw [hnx]; rfl, rfl⟩
    · rintro σ H' ⟨y3, y4, y5, y6, rfl, rfl⟩
      rw [Int.toNat_natCast]
      -- ring = []; at = mark
      refine ⟨Nat.zero_le _, fun R nR => ⟨_, rfl, ?_⟩⟩
      have s1 : Same H' (upd H' R (.lst [])) := same_upd nR
      -- the while
      refine ⟨fun mm σ H2 => ∃ (i : Nat) (xs : List V) (y3 y6 : Option V), mm = d - i ∧ i ≤ d ∧ σ = [some (.int n), some (.ref Ca), some (.int (bk c n m : Nat)), y3, some (.ref R), some (.int (bk c (n + i) m : Nat)), y6] ∧ Same H' H2 ∧ H2 R = some (.lst xs) ∧ xs.length = i,
        ⟨d, 0, [], _, _, rfl, Nat.zero_le _, rfl, s1, upd_same, rfl⟩, ?_⟩
      rintro mm σ H2 ⟨i, xs, y3, y6, rfl, hid, rfl, sm, hR, hxl⟩
      have turn : i < d → ∃ N : L2.St → Hp → Prop, (∀ σ' H'', N σ' H'' → ∃ m', m' < d - i ∧ ∃ (i : Nat) (xs : List V) (y3 y6 : Option V), m' = d - i ∧ i ≤ d ∧ σ' = [some (.int n), some (.ref Ca), some (.int (bk c n m : Nat)), y3, some (.ref R), some (.int (bk c (n + i) m : Nat)), y6] ∧ Same H' H'' ∧ H'' R = some (.lst xs) ∧ xs.length = i) ∧
          (tSeq (tAsg (tOp (rIxL K) (tVar 1) (tVar 5)) (gName 6)) (tSeq (tDrop (tBM K "list" rAppend (tVar 4) (tCons (tTup (tCons (tOp (rIxT K) (tVar 6) (tC (.int 3))) (tCons (tOp (rIxT K) (tVar 6) (tC (.int 4))) (tCons (tOp (rIxT K) (tVar 6) (tC (.int 2))) tNil)))) tNil)))
            (tAsg (tOp (rIxT K) (tVar 6) (tC (.int 0))) (gName 5)))) { nx := N, rt := fun _ _ => False, bk := fun _ _ => False, ct := N } [some (.int n), some (.ref Ca), some (.int (bk c n m : Nat)), y3, some (.ref R), some (.int (bk c (n + i) m : Nat)), y6] H2 := by
        intro hlt1
        refine ⟨fun σ' H'' => ∃ (xs : List V) (y3 y6 : Option V), σ' = [some (.int n), some (.ref Ca), some (.int (bk c n m : Nat)), y3, some (.ref R), some (.int (bk c (n + (i + 1)) m : Nat)), y6] ∧ Same H' H'' ∧ H'' R = some (.lst xs) ∧ xs.length = i + 1,
          fun σ' H'' ⟨xs, y3, y6, e1, e2, e3, e4⟩ => ⟨d - (i + 1), by omega, i + 1, xs, y3, y6, rfl, hlt1, e1, e2, e3, e4⟩, ?_⟩
        obtain ⟨T, e, k1, z, he, hT, hTT, hnx⟩ := step H2 sm (n + i)
        refine ⟨_, rfl, _, rfl, Ca, _, _, _, rfl, rfl, SqL.of (sm _ _ hC), tab_at (hlt (n + i)), ?_⟩
        refine ⟨_, rfl, .inl ⟨rfl, _, SqL.of hR⟩, ?_⟩
        refine ⟨_, rfl, T, _, 3, _, hT, rfl, SqT.of hTT, atI_nat (j := 3) rfl, ?_⟩
        refine ⟨_, rfl, T, _, 4, _, hT, rfl, SqT.of hTT, atI_nat (j := 4) rfl, ?_⟩
        refine ⟨_, rfl, T, _, 2, _, hT, rfl, SqT.of hTT, atI_nat (j := 2) rfl, ?_⟩
        refine ⟨smallE (by show 3 ≤ 10000; decide), fun u nu => ?_⟩
        have su := same_upd (o := .tup [.int k1, .str z, .int e.2.2]) nu
        refine ⟨R, _, _, rfl, rfl, su _ _ hR, small (by omega), ?_⟩
        have hTR : T ≠ R := ne_of hTT hR (by intro z; cases z)
        refine ⟨_, rfl, T, _, 0, _, hT, rfl, SqT.of ((upd_ne hTR).trans (su _ _ hTT)), atI_nat (j := 0) rfl, ?_⟩
        refine ⟨xs ++ [.ref u], _, _, by rw [hnx]; rfl, fun b o hb => ?_, upd_same, by rw [List.length_append, hxl]; rfl⟩
        rw [upd_ne (ne_of_none hb nR)]
        exact su _ _ (sm _ _ hb)
      refine ⟨_, rfl, R, xs, rfl, .inl (SqL.of hR), rfl, _, rfl, if2 (fun q1 => ?_) (fun q1 => ?_)⟩
      · have q2 : (xs.length : Int) = 0 := V.int.inj q1
        exact iteT (turn (by omega))
      · have q2 : i ≠ 0 := fun z => q1 (congrArg V.int (by omega))
        refine ⟨_, rfl, _, rfl, rfl, _, rfl, ?_⟩
        by_cases q3 : i = d
        · subst q3
          rw [hring, decide_eq_true rfl]
          refine iteF ?_
          -- return tuple(ring[::-1])
          refine ⟨_, rfl, R, xs, rfl, SqL.of hR, fun p np => ?_⟩
          refine ⟨p, _, rfl, .inl ⟨SqL.of upd_same, fun r nr => ?_⟩⟩
          exact q _ r (sm.trans ((same_upd np).trans (same_upd nr)))
        · by_cases q4 : V.int (bk c (n + i) m : Nat) = V.int (bk c n m : Nat)
          · rw [decide_eq_true q4]
            refine iteF ?_
            refine ⟨_, rfl, R, xs, rfl, SqL.of hR, fun p np => ?_⟩
            refine ⟨p, _, rfl, .inl ⟨SqL.of upd_same, fun r nr => ?_⟩⟩
            exact q _ r (sm.trans ((same_upd np).trans (same_upd nr)))
          · rw [decide_eq_false q4]
            exact iteT (turn (by omega))
theorem ok_placed {f fC fL fX fG : Addr} {fd fdC fdL fdX fdG : FuncData} (F : Fun K "placed" "placed" sPlaced f fd) (mr : mg "range" = none) (mt : mg "tuple" = none)
    (GC : FnOk P w K mg base CX0 1 fC fdC ["count", "distances"] spCheck) (gC : mg "check_distances" = some (.ref fC)) (kC : PySem.W.keepIn K (.ref fC) = true) (bC : Binds K fdC ["count", "distances"] [])
    (GL : FnOk P w K mg base CX0 1 fL fdL ["distances"] spLims) (gL : mg "limits_of" = some (.ref fL)) (kL : PySem.W.keepIn K (.ref fL) = true) (bL : Binds K fdL ["distances"] [])
    (GX : FnOk P w K mg base CX0 1 fX fdX ["limits", "positions", "came"] spRelax) (gX : mg "relaxed" = some (.ref fX)) (kX : PySem.W.keepIn K (.ref fX) = true) (bX : Binds K fdX ["limits", "positions", "came"] [])
    (GG : FnOk P w K mg base CX0 1 fG fdG ["count", "came", "mark"] spRing) (gG : mg "ring_from" = some (.ref fG)) (kG : PySem.W.keepIn K (.ref fG) = true) (bG : Binds K fdG ["count", "came", "mark"] []) :
    FnOk P w K mg base CX0 2 f fd ["count", "distances"] spPlaced := by
  refine F.ok scPlaced (fun vs H Q E h => ?_) (fun cdv A outer s H vs Q E hr h => ?_)
  · obtain ⟨n, D, ds, rfl, _⟩ := h
    rfl
  · obtain ⟨n, D, ds, rfl, hD, ok, qF, qN⟩ := h
    refine ⟨_, pss_cons (ps_expr (pe_call GC hr (by rfl) gC kC bC .nil pass0 (pa_cons (pv 0) (pa_cons (pv 1) pa_nil))))
      (pss_cons (ps_set (i := 2) scPlaced.nd rfl (.inl rfl) (pe_call GL hr (by rfl) gL kL bL .nil pass0 (pa_cons (pv 1) pa_nil)))
      (pss_cons (ps_set (i := 3) scPlaced.nd rfl (.inl rfl) (pe_op op_rep (pe_lst (pa_cons pe_int pa_nil)) (pv 0)))
      (pss_cons (ps_set (i := 4) scPlaced.nd rfl (.inl rfl) (pe_op op_rep (pe_lst (pa_cons pe_non pa_nil)) (pv 0)))
      (pss_cons (ps_set (i := 5) scPlaced.nd rfl (.inl rfl) pe_non)
      (pss_cons (ps_for PassesOwn.never rfl (pi_range1 rfl mr (pa_cons (pv 0) pa_nil)) (pg_name (i := 6) scPlaced.nd rfl (.inl rfl))
        (pss_cons (ps_set (i := 5) scPlaced.nd rfl (.inl rfl) (pe_call GX hr (by rfl) gX kX bX .nil pass0 (pa_cons (pv 2) (pa_cons (pv 3) (pa_cons (pv 4) pa_nil)))))
        (pss_one (ps_if (pt_cmpR op_isN (pv 5) pe_non (nomark _)) (pss_one (ps_ret (pe_tup (pa_cons pe_str (pa_cons (pe_callTy call_tuple_of (by rfl) mt (by decide +kernel) (pa_cons (pv 3) pa_nil)) pa_nil))))) pss_nil))))
      (pss_one (ps_ret (pe_tup (pa_cons pe_str (pa_cons (pe_call GG hr (by rfl) gG kG bG .nil pass0 (pa_cons (pv 0) (pa_cons (pv 4) (pa_cons (pv 5) pa_nil)))) pa_nil)))))))))), ?_⟩
    have k1 := ok.lo
    have k2 := ok.hi
    have k3 := ok.len
    have hB : Bnd n (limsOf ds) := limsOf_bnd ok.bnd
    -- check_distances(count, distances)
    refine ⟨_, rfl, _, rfl, n, D, ds, rfl, hD, ok, ?_⟩
    -- limits = limits_of(distances)
    refine ⟨_, rfl, D, ds, rfl, hD, k3, fun H1 L s1 nL hL => ?_⟩
    -- positions = [0] * count
    refine ⟨smallE (by show 1 ≤ 10000; decide), fun l1 nl1 => ⟨_, rfl, l1, _, _, rfl, rfl, upd_same, by omega, by omega, smallE (by show 1 * (n : Int).toNat ≤ 10000; omega), fun Pa nP => ?_⟩⟩
    rw [Int.toNat_natCast, rep_tab]
    have s2 : Same H1 (upd (upd H1 l1 (.lst [.int 0])) Pa (.lst (tab n fun _ => .int 0))) := (same_upd nl1).trans (same_upd nP)
    -- came = [None] * count
    refine ⟨smallE (by show 1 ≤ 10000; decide), fun l2 nl2 => ⟨_, rfl, l2, _, _, rfl, rfl, upd_same, by omega, by omega, smallE (by show 1 * (n : Int).toNat ≤ 10000; omega), fun Ca nC => ?_⟩⟩
    rw [Int.toNat_natCast, rep_tab]
    have hP0 : (upd (upd H1 l1 (.lst [.int 0])) Pa (.lst (tab n fun _ => .int 0))) Pa = some (.lst (tab n fun _ => .int 0)) := upd_same
    generalize (upd (upd H1 l1 (.lst [.int 0])) Pa (.lst (tab n fun _ => .int 0))) = H2 at *
    have s3 : Same H2 (upd (upd H2 l2 (.lst [.non])) Ca (.lst (tab n fun _ => .non))) := (same_upd nl2).trans (same_upd nC)
    have hC0 : (upd (upd H2 l2 (.lst [.non])) Ca (.lst (tab n fun _ => .non))) Ca = some (.lst (tab n fun _ => .non)) := upd_same
    have nC2 : H2 Ca = none := by
      have z : Ca ≠ l2 := fun z => by rw [z, upd_same] at nC; cases nC
      rw [upd_ne z] at nC
      exact nC
    generalize (upd (upd H2 l2 (.lst [.non])) Ca (.lst (tab n fun _ => .non))) = H3 at *
    have nP1 : H1 Pa = none := by
      have z : Pa ≠ l1 := fun z => by rw [z, upd_same] at nP; cases nP
      rw [upd_ne z] at nP
      exact nP
    have hL3 : LsAt H3 L (limsOf ds) := (hL.same s2).same s3
    have sm0 : Same H H3 := s1.trans (s2.trans s3)
    have nPC : Pa ≠ Ca := ne_of_none hP0 nC2
    obtain ⟨ts, hLL, _⟩ := id hL
    have nLP : L ≠ Pa := ne_of_none hLL nP1
    have nLC : L ≠ Ca := ne_of_none (s2 _ _ hLL) nC2
    have nPH : H Pa = none := s1.free nP1
    have nCH : H Ca = none := (s1.trans s2).free nC2
    have hpa : PAt H3 n Pa Ca (roundsC (limsOf ds) 0 start0) := ⟨s3 _ _ hP0, fun _ => .non, hC0, fun v _ => rfl⟩
    -- last = None; the rounds
    refine ⟨_, rfl, (n : Int), rfl, by omega, by omega, ?_⟩
    refine for_range (lo := 0) (n := (n : Int).toNat) (fun k σ H' => ∃ y6, σ = [some (.int n), some (.ref D), some (.ref L), some (.ref Pa), some (.ref Ca), some (nV (roundsC (limsOf ds) k start0).last), y6] ∧ Same H H' ∧ LsAt H' L (limsOf ds) ∧ PAt H' n Pa Ca (roundsC (limsOf ds) k start0) ∧ (k ≠ 0 → (roundsC (limsOf ds) k start0).last ≠ none))
      ⟨_, rfl, sm0, hL3, hpa, fun z => absurd rfl z⟩ ?_ ?_
    · rintro k σ H' hk ⟨y6, rfl, sm, hL', pa, _⟩
      refine ⟨_, rfl, _, rfl, _, rfl, L, Pa, Ca, n, limsOf ds, { roundsC (limsOf ds) k start0 with last := none }, rfl, hL', hB, ⟨pa.p, pa.c⟩, nPC, nLP, nLC, rfl, fun H'' s2' pa' => ?_⟩
      have sm' : Same H H'' := fun b o hb => s2' b o (ne_of_none hb nPH) (ne_of_none hb nCH) (sm b o hb)
      have hL'' : LsAt H'' L (limsOf ds) := by
        obtain ⟨us, u1, u2⟩ := hL'
        obtain ⟨cv, c1, _⟩ := pa.c
        have p1 := pa.p
        exact ⟨us, s2' _ _ nLP nLC u1, u2.mono fun t e ⟨a, z, q⟩ => ⟨a, z, s2' _ _ (ne_of q p1 (by intro z; cases z)) (ne_of q c1 (by intro z; cases z)) q⟩⟩
      -- if last is None
      refine ⟨_, rfl, rfl, _, rfl, ?_⟩
      cases el : ((limsOf ds).foldl stepC { roundsC (limsOf ds) k start0 with last := none }).last with
      | none =>
        rw [show decide (nV none = V.non) = true from rfl]
        refine iteT ?_
        have hf : Feas (limsOf ds) := ⟨_, foldC_none _ _ el⟩
        refine ⟨_, rfl, Pa, _, rfl, .inl ⟨SqL.of pa'.p, fun x nx => ⟨smallE (by show 2 ≤ 10000; decide), fun r nr => ?_⟩⟩⟩
        exact qF hf _ r _ (sm'.trans ((same_upd nx).trans (same_upd nr))) upd_same
      | some j =>
        rw [show decide (nV (some j) = V.non) = false from decide_eq_false (by intro z; cases z)]
        refine iteF ⟨some (.int (0 + (k : Int))), ?_, sm', hL'', pa', fun _ => ?_⟩
        · have e : nV (roundsC (limsOf ds) (k + 1) start0).last = nV (some j) := congrArg nV el
          rw [e]
          rfl
        · intro z
          exact nomatch el.symm.trans z
    · rintro σ H' ⟨y6, rfl, sm, hL', pa, hlast⟩
      rw [Int.toNat_natCast] at pa hlast ⊢
      obtain ⟨k, rfl⟩ : ∃ k, n = k + 1 := ⟨n - 1, by omega⟩
      have hl := hlast (Nat.succ_ne_zero k)
      have hnf := not_feas hB hl
      obtain ⟨m, hm⟩ := Option.ne_none_iff_exists'.mp hl
      obtain ⟨r1, d, hd1, hd2, hd3⟩ := ring hB rfl hm
      obtain ⟨cv, c1, c2⟩ := pa.c
      refine ⟨_, rfl, _, rfl, _, rfl, k + 1, Ca, m, d, cv, _, by rw [hm]; rfl, k2, c1, c2, ring_lt hB r1, (fun t => let ⟨e, h, _⟩ := r1 t; ⟨e, h⟩), hd1, hd2, hd3, fun H'' x s' => ?_⟩
      refine ⟨smallE (by show 2 ≤ 10000; decide), fun r nr => ?_⟩
      exact qN hnf _ r _ (sm.trans (s'.trans (same_upd nr))) upd_same
end
end Ts
/-! TsD: implied (it may raise), _law_told (it catches). -/
namespace Ts
open PySem PySem.Spec PyProof.Rows L2 TsM
theorem scImpl : FnScope ["count", "distances", "i", "j", "limits", "high", "back", "low"] ["count", "distances", "i", "j"] (defScope sImpl) := ⟨rfl, rfl, rfl, by decide +kernel, rfl, by decide +kernel, by decide +kernel⟩
theorem scTold : FnScope ["_law_count", "_law_distances_here", "_law_i", "_law_j", "_law_found", "e"] ["_law_count", "_law_distances_here", "_law_i", "_law_j"] (defScope sTold) := ⟨rfl, rfl, rfl, by decide +kernel, rfl, by decide +kernel, by decide +kernel⟩
/-- what the top has written of an error's class -/
structure ExT (K : PySem.W.Frag) (mg : Str → Option Value) (x : Str) (C : Addr) : Prop where
  g : mg x = some (.ref C)
  x : PySem.W.excIn K C [.type "ValueError", .type "Exception", .type "BaseException", .type "object"] "ValueError.__new__" = true
  k : PySem.W.keepIn K (.ref C) = true
  b : PySem.W.subIn K (.ref C) (.type "BaseException") = some true
  t : PySem.W.typeIn K (.ref C) = some (.type "type")
/-- the marks are none -/
def Out (n : Nat) (i j : Int) : Prop := i < 0 ∨ (n : Int) ≤ i ∨ j < 0 ∨ (n : Int) ≤ j
def spImpl (CR CD : Addr) : Sp := fun vs H Q E => ∃ (n : Nat) (D : Addr) (ds : List Dist) (i j : Int), vs = [.int n, .ref D, .int i, .int j] ∧ DsAt H D ds ∧ DsOk n ds ∧
  (Out n i j → E (.ref CR) none H) ∧ (¬ Out n i j → ¬ Feas (limsOf ds) → ∀ H', Same H H' → E (.ref CD) none H') ∧
  (¬ Out n i j → Feas (limsOf ds) → ∀ H' r low high, Same H H' → Told ds i.toNat j.toNat low high → H' r = some (.tup [oV low, oV high]) → Q (.ref r) H')
section
variable {P : Program} {w : World} {K : PySem.W.Frag} {mg : Str → Option Value} {base : Heap}
theorem ok_impl {f fC fL fP fS CR CD : Addr} {fd fdC fdL fdP fdS : FuncData} (F : Fun K "implied" "implied" sImpl f fd) (XR : ExT K mg "RangeError" CR) (XD : ExT K mg "DistanceError" CD)
    (GC : FnOk P w K mg base CX0 1 fC fdC ["count", "distances"] spCheck) (gC : mg "check_distances" = some (.ref fC)) (kC : PySem.W.keepIn K (.ref fC) = true) (bC : Binds K fdC ["count", "distances"] [])
    (GL : FnOk P w K mg base CX0 1 fL fdL ["distances"] spLims) (gL : mg "limits_of" = some (.ref fL)) (kL : PySem.W.keepIn K (.ref fL) = true) (bL : Binds K fdL ["distances"] [])
    (GP : FnOk P w K mg base CX0 2 fP fdP ["count", "distances"] spPlaced) (gP : mg "placed" = some (.ref fP)) (kP : PySem.W.keepIn K (.ref fP) = true) (bP : Binds K fdP ["count", "distances"] [])
    (GS : FnOk P w K mg base CX0 1 fS fdS ["count", "limits", "start"] spLeast) (gS : mg "least_sums" = some (.ref fS)) (kS : PySem.W.keepIn K (.ref fS) = true) (bS : Binds K fdS ["count", "limits", "start"] []) :
    FnOk P w K mg base (L2.CX P w) 3 f fd ["count", "distances", "i", "j"] (spImpl CR CD) := by
  refine F.okX scImpl (fun vs H Q E h => ?_) (fun cdv A outer s H vs Q E hr h => ?_)
  · obtain ⟨n, D, ds, i, j, rfl, _⟩ := h
    rfl
  · obtain ⟨n, D, ds, i, j, rfl, hD, ok, qR, qD, qT⟩ := h
    have hr1 : Room 1 _ := hr.mono (by decide)
    refine ⟨_, pss_cons (ps_expr (pe_call GC hr1 (by rfl) gC kC bC .nil pass0 (pa_cons (pv 0) (pa_cons (pv 1) pa_nil))))
      (pss_cons (ps_if (PW.pt (pw_or (pt_cmpR op_lt (pv 2) pe_int (nomark _)) (pw_or (pt_cmpR op_ge (pv 2) (pv 0) (nomark _)) (pw_or (pt_cmpR op_lt (pv 3) pe_int (nomark _)) (pw_or1 (pt_cmpR op_ge (pv 3) (pv 0) (nomark _)))))))
        (pss_one (ps_raise (W := fun cls d _ H => E cls d H) rfl (takes_of rfl rfl rfl rfl) (pmk_own PySem.F.excBase_ValueError XR.x XR.g XR.k (raises_own XR.b XR.t) (by exact rfl)))) pss_nil)
      (pss_cons (ps_if (pt_cmpR op_eq (pe_ix ix_tup (pe_call GP hr (by rfl) gP kP bP .nil pass0 (pa_cons (pv 0) (pa_cons (pv 1) pa_nil))) pe_int (fun _ _ => rfl)) pe_str (nomark _))
        (pss_one (ps_raise (W := fun cls d _ H => E cls d H) rfl (takes_of rfl rfl rfl rfl) (pmk_own PySem.F.excBase_ValueError XD.x XD.g XD.k (raises_own XD.b XD.t) (by exact rfl)))) pss_nil)
      (pss_cons (ps_set (i := 4) scImpl.nd rfl (.inl rfl) (pe_call GL hr1 (by rfl) gL kL bL .nil pass0 (pa_cons (pv 1) pa_nil)))
      (pss_cons (ps_set (i := 5) scImpl.nd rfl (.inl rfl) (pe_ix ix_list (pe_call GS hr1 (by rfl) gS kS bS .nil pass0 (pa_cons (pv 0) (pa_cons (pv 4) (pa_cons (pv 2) pa_nil)))) (pv 3) (fun _ _ => rfl)))
      (pss_cons (ps_set (i := 6) scImpl.nd rfl (.inl rfl) (pe_ix ix_list (pe_call GS hr1 (by rfl) gS kS bS .nil pass0 (pa_cons (pv 0) (pa_cons (pv 4) (pa_cons (pv 3) pa_nil)))) (pv 2) (fun _ _ => rfl)))
      (pss_cons (ps_set (i := 7) scImpl.nd rfl (.inl rfl) pe_non)
      (pss_cons (ps_if (pt_cmpR op_notN (pv 6) pe_non (nomark _)) (pss_one (ps_set (i := 7) scImpl.nd rfl (.inl rfl) (pe_un un_neg (pv 6)))) pss_nil)
      (pss_one (ps_ret (pe_tup (pa_cons (pv 7) (pa_cons (pv 5) pa_nil)))))))))))), ?_⟩
    have k1 := ok.lo
    have k2 := ok.hi
    have k3 := ok.len
    have hB : Bnd n (limsOf ds) := limsOf_bnd ok.bnd
    refine ⟨_, rfl, _, rfl, n, D, ds, rfl, hD, ok, ?_⟩
    -- the marks
    refine ⟨_, rfl, _, _, rfl, rfl, _, rfl, if2 (fun c1 => iteT (qR (.inl c1))) (fun c1 => ?_)⟩
    refine ⟨_, rfl, _, rfl, _, _, rfl, rfl, _, rfl, if2 (fun c2 => iteT (qR (.inr (.inl c2)))) (fun c2 => ?_)⟩
    refine ⟨_, rfl, _, _, rfl, rfl, _, rfl, if2 (fun c3 => iteT (qR (.inr (.inr (.inl c3))))) (fun c3 => ?_)⟩
    refine ⟨_, rfl, _, rfl, _, _, rfl, rfl, _, rfl, if2 (fun c4 => qR (.inr (.inr (.inr c4)))) (fun c4 => ?_)⟩
    have nO : ¬ Out n i j := fun z => by
      rcases z with z | z | z | z
      · exact c1 z
      · exact c2 z
      · exact c3 z
      · exact c4 z
    replace qD := qD nO
    replace qT := qT nO
    clear qR
    obtain ⟨a, rfl⟩ : ∃ a : Nat, i = a := ⟨i.toNat, by omega⟩
    obtain ⟨b, rfl⟩ : ∃ b : Nat, j = b := ⟨j.toNat, by omega⟩
    have ha : a < n := by omega
    have hb : b < n := by omega
    rw [Int.toNat_natCast, Int.toNat_natCast] at qT
    -- placed
    refine ⟨_, rfl, _, rfl, n, D, ds, rfl, hD, ok, fun hf H1 r x s1 hr1 => ?_, fun hf H1 r x s1 hr1 => ?_⟩
    · refine ⟨r, _, 0, _, rfl, rfl, SqT.of hr1, atI_nat (j := 0) rfl, rfl, _, rfl, ifN (by intro z; exact absurd (V.str.inj z) (by decide)) ?_⟩
      refine ⟨_, rfl, D, ds, rfl, hD.same s1, k3, fun H2 L s2 nL hL => ?_⟩
      -- high
      refine ⟨_, rfl, _, rfl, _, rfl, n, L, a, _, rfl, hL, hB, ha, k2, fun H3 S s3 hS => ?_⟩
      refine ⟨_, rfl, S, _, _, _, rfl, rfl, SqL.of hS, tab_at hb, ?_⟩
      -- back
      refine ⟨_, rfl, _, rfl, _, rfl, n, L, b, _, rfl, hL.same s3, hB, hb, k2, fun H4 S' s4 hS' => ?_⟩
      refine ⟨_, rfl, S', _, _, _, rfl, rfl, SqL.of hS', tab_at ha, ?_⟩
      have T := told ok.bnd hf (n := n) a b
      have sm : Same H H4 := s1.trans (s2.trans (s3.trans s4))
      refine ⟨_, rfl, rfl, _, rfl, ?_⟩
      cases e : sums n (limsOf ds) b a with
      | none =>
        rw [show (!decide (oV none = V.non)) = false from rfl]
        rw [e] at T
        refine iteF ⟨_, rfl, _, rfl, smallE (by show 2 ≤ 10000; decide), fun q nq => ?_⟩
        exact qT hf _ q _ _ (sm.trans (same_upd nq)) T upd_same
      | some v =>
        rw [show oV (some v) = V.int v from rfl, dN]
        rw [e] at T
        refine iteT ⟨_, rfl, _, rfl, ?_⟩
        refine ⟨_, rfl, _, rfl, smallE (by show 2 ≤ 10000; decide), fun q nq => ?_⟩
        exact qT hf _ q _ _ (sm.trans (same_upd nq)) T upd_same
    · refine ⟨r, _, 0, _, rfl, rfl, SqT.of hr1, atI_nat (j := 0) rfl, rfl, _, rfl, ifY rfl ?_⟩
      exact qD hf _ s1
/-- a class of one's own asked by isinstance -/
theorem kit_own {t : Value} {C : Addr} {b : Bool} (h2 : PySem.W.isClsIn K C = true) (h3 : PySem.W.typeIn K (.ref C) = some (.type "type")) (h4 : PySem.W.subIn K t (.ref C) = some b) (hne : b = true ∨ t ≠ .ref C) : PySem.W.kitOne K t (.ref C) = some b := by
  unfold PySem.W.kitOne
  by_cases e : t = .ref C
  · rcases hne with hb | hb
    · rw [if_pos (beq_iff_eq.mpr e), hb]
    · exact absurd e hb
  · rw [if_neg (fun q => e (beq_iff_eq.mp q))]
    have e2 : ((PySem.W.clsIn K C).isSome && PySem.W.typeIn K (.ref C) == some (.type "type")) = true := by
      have h2' : (PySem.W.clsIn K C).isSome = true := h2
      rw [h2', h3] <;> rfl
    show (if ((PySem.W.clsIn K C).isSome && PySem.W.typeIn K (.ref C) == some (.type "type")) = true then PySem.W.subIn K t (.ref C) else none) = some b
    rw [if_pos e2]
    exact h4
end
def tIsE (K : PySem.W.Frag) (D a C : Addr) : TT := tB (tCB (rIsE K D a) (tCons (tVar 5) (tCons (tC (.ref C)) tNil)))
/-- the except suite, the error being of the class D and standing at a -/
def tSuite (K : PySem.W.Frag) (CR CD D a : Addr) : TS := tSeq (tIfS (tIsE K D a CR) (tRet (tC (.str "range"))) tNext) (tRet (tIf (tIsE K D a CD) (tC (.str "distance")) (tC (.str "other"))))
open Classical in
noncomputable def tSuites (K : PySem.W.Frag) (CR CD : Addr) : Addr → Value → Option Addr → TS := fun a cls d =>
  if cls = .ref CR ∧ d = none then tSuite K CR CD CR a else if cls = .ref CD ∧ d = none then tSuite K CR CD CD a else tNever
def spTold : Sp := fun vs H Q _ => ∃ (n : Nat) (D : Addr) (ds : List Dist) (i j : Int), vs = [.int n, .ref D, .int i, .int j] ∧ DsAt H D ds ∧ DsOk n ds ∧
  (Out n i j → ∀ H', Same H H' → Q (.str "range") H') ∧ (¬ Out n i j → ¬ Feas (limsOf ds) → ∀ H', Same H H' → Q (.str "distance") H') ∧
  (¬ Out n i j → Feas (limsOf ds) → ∀ H' r low high, Same H H' → Told ds i.toNat j.toNat low high → H' r = some (.tup [oV low, oV high]) → Q (.ref r) H')
section
variable {P : Program} {w : World} {K : PySem.W.Frag} {mg : Str → Option Value} {base : Heap}
theorem ok_told {f fI CR CD CS : Addr} {fd fdI : FuncData} (F : Fun K "_law_told" "_law_told" sTold f fd) (mi : mg "isinstance" = none) (gS : mg "ShardError" = some (.ref CS)) (gR : mg "RangeError" = some (.ref CR)) (gD : mg "DistanceError" = some (.ref CD))
    (xR : PySem.W.exmOne K (.ref CR) (.ref CS) = some true) (xD : PySem.W.exmOne K (.ref CD) (.ref CS) = some true) (ER : ExcC K CR) (ED : ExcC K CD)
    (kRR : PySem.W.kitOne K (.ref CR) (.ref CR) = some true) (kDR : PySem.W.kitOne K (.ref CD) (.ref CR) = some false) (kDD : PySem.W.kitOne K (.ref CD) (.ref CD) = some true) (neq : CD ≠ CR)
    (GI : FnOk P w K mg base (L2.CX P w) 3 fI fdI ["count", "distances", "i", "j"] (spImpl CR CD)) (gI : mg "implied" = some (.ref fI)) (kI : PySem.W.keepIn K (.ref fI) = true) (bI : Binds K fdI ["count", "distances", "i", "j"] []) :
    FnOk P w K mg base CX0 4 f fd ["_law_count", "_law_distances_here", "_law_i", "_law_j"] spTold := by
  refine F.ok scTold (fun vs H Q E h => ?_) (fun cdv A outer s H vs Q E hr h => ?_)
  · obtain ⟨n, D, ds, i, j, rfl, _⟩ := h
    rfl
  · obtain ⟨n, D, ds, i, j, rfl, hD, ok, qR, qD, qT⟩ := h
    refine ⟨_, pss_cons (ps_try_as (i := 5) (tb := fun W => tAsg (tCallS (spImpl CR CD) (WE W) (tCons (tVar 0) (tCons (tVar 1) (tCons (tVar 2) (tCons (tVar 3) tNil))))) (gName 4)) (ts := tSuites K CR CD) (Wout := fun _ _ _ _ => False) rfl rfl scTold.nd rfl rfl ⟨rfl, by decide, Or.inl gS⟩ takes0
        (fun W pn xe tk _ => pss_one (ps_set (i := 4) scTold.nd rfl (Or.inl rfl) (by exact (pe_callS GI hr rfl gI kI bI (fun σ => passAt tk σ) (by exact (pa_cons (pv 0) (pa_cons (pv 1) (pa_cons (pv 2) (pa_cons (pv 3) pa_nil)))))))))
        (fun a oe cls d pn hz hf => ?_))
      (pss_one (ps_ret (pv 4))), ?_⟩
    · unfold tSuites
      split
      · rename_i e
        obtain ⟨rfl, rfl⟩ := e
        exact pss_cons (ps_if (pt_val (pe_callB (call_isE ER hz hf) (by rfl) mi (by decide +kernel) (pa_cons (pv 5) (pa_cons (pe_glob (v := .ref CR) rfl gR rfl) pa_nil)))) (pss_one (ps_ret pe_str)) pss_nil)
          (pss_one (ps_ret (pe_ifExp (pt_val (pe_callB (call_isE ER hz hf) (by rfl) mi (by decide +kernel) (pa_cons (pv 5) (pa_cons (pe_glob (v := .ref CD) rfl gD rfl) pa_nil)))) pe_str pe_str)))
      · split
        · rename_i e
          obtain ⟨rfl, rfl⟩ := e
          exact pss_cons (ps_if (pt_val (pe_callB (call_isE ED hz hf) (by rfl) mi (by decide +kernel) (pa_cons (pv 5) (pa_cons (pe_glob (v := .ref CR) rfl gR rfl) pa_nil)))) (pss_one (ps_ret pe_str)) pss_nil)
            (pss_one (ps_ret (pe_ifExp (pt_val (pe_callB (call_isE ED hz hf) (by rfl) mi (by decide +kernel) (pa_cons (pv 5) (pa_cons (pe_glob (v := .ref CD) rfl gD rfl) pa_nil)))) pe_str pe_str)))
        · exact pss_never
    · refine ⟨_, rfl, _, rfl, _, rfl, _, rfl, n, D, ds, i, j, rfl, hD, ok, fun hO => ?_, fun hO hf H' sm => ?_, fun hO hf H' r low high sm T hr => ?_⟩
      · refine ⟨true, xR, fun _ a na => ?_, fun q => nomatch q⟩
        unfold tSuites
        rw [if_pos ⟨rfl, rfl⟩]
        refine ⟨_, rfl, .ref CR, .ref CR, true, rfl, (fun u h => h), kRR, _, rfl, iteT ?_⟩
        exact qR hO H (Same.refl H)
      · refine ⟨true, xD, fun _ a na => ?_, fun q => nomatch q⟩
        unfold tSuites
        rw [if_neg (fun z => neq (Value.ref.inj z.1)), if_pos ⟨rfl, rfl⟩]
        refine ⟨_, rfl, .ref CR, .ref CR, false, rfl, (fun u h => h), kDR, _, rfl, iteF ?_⟩
        refine ⟨_, rfl, .ref CD, .ref CD, true, rfl, (fun u h => h), kDD, _, rfl, iteT ?_⟩
        exact qD hO hf H' sm
      · exact ⟨_, rfl, qT hO hf H' r low high sm T hr⟩
end
end Ts
/-! TsE: the law's draws: _law_begin, _law_take, _law_signed; _law_int. -/
namespace Ts
open PySem PySem.Spec PyProof.Rows L2 TsM
theorem scBegin : FnScope ["_law_script", "_law_seed", "_law_cell"] ["_law_script"] (defScope sBegin) := ⟨rfl, rfl, rfl, by decide +kernel, rfl, by decide +kernel, by decide +kernel⟩
theorem scTake : FnScope ["_law_d", "_law_many", "_law_small", "_law_digit"] ["_law_d", "_law_many"] (defScope sTake) := ⟨rfl, rfl, rfl, by decide +kernel, rfl, by decide +kernel, by decide +kernel⟩
theorem scSigned : FnScope ["_law_d", "_law_most"] ["_law_d", "_law_most"] (defScope sSigned) := ⟨rfl, rfl, rfl, by decide +kernel, rfl, by decide +kernel, by decide +kernel⟩
theorem scInt : FnScope ["_law_actual"] ["_law_actual"] (defScope sInt) := ⟨rfl, rfl, rfl, by decide +kernel, rfl, by decide +kernel, by decide +kernel⟩
/-- the draws' list: the script's numbers, the place, what is left of a great number, the seed -/
structure DrawSt (H : Hp) (d l : Addr) (ns : List Int) (p q s : Int) : Prop where
  hd : H d = some (.lst [.ref l, .int p, .int q, .int s])
  hl : H l = some (.lst (ns.map V.int))
  hp : 0 ≤ p
  hq : 0 ≤ q
  ne : l ≠ d
def DrawAt (H : Hp) (d l : Addr) (ns : List Int) : Prop := ∃ (p q s : Int), DrawSt H d l ns p q s
theorem DrawSt.put {H : Hp} {d l : Addr} {ns : List Int} {p q s p' q' s' : Int} (D : DrawSt H d l ns p q s) (hp : 0 ≤ p') (hq : 0 ≤ q') : DrawSt (upd H d (.lst [.ref l, .int p', .int q', .int s'])) d l ns p' q' s' :=
  ⟨upd_same, by rw [upd_ne D.ne]; exact D.hl, hp, hq, D.ne⟩
theorem DrawAt.same {H H' : Hp} {d l : Addr} {ns : List Int} (h : Same H H') : DrawAt H d l ns → DrawAt H' d l ns := fun ⟨p, q, s, D⟩ => ⟨p, q, s, h _ _ D.hd, h _ _ D.hl, D.hp, D.hq, D.ne⟩
theorem DrawAt.lst {H : Hp} {d l : Addr} {ns : List Int} : DrawAt H d l ns → ∃ xs, H d = some (.lst xs) := fun ⟨p, q, s, D⟩ => ⟨_, D.hd⟩
theorem DrawAt.lst' {H : Hp} {d l : Addr} {ns : List Int} : DrawAt H d l ns → H l = some (.lst (ns.map V.int)) := fun ⟨p, q, s, D⟩ => D.hl
theorem DrawAt.upd {H : Hp} {d l b : Addr} {ns : List Int} {o : HO} (h1 : b ≠ d) (h2 : b ≠ l) : DrawAt H d l ns → DrawAt (upd H b o) d l ns := fun ⟨p, q, s, D⟩ =>
  ⟨p, q, s, by rw [upd_ne h1.symm]; exact D.hd, by rw [upd_ne h2.symm]; exact D.hl, D.hp, D.hq, D.ne⟩
def spBegin (K : PySem.W.Frag) : Sp := fun vs H Q _ => ∃ (a : Addr) (ns : List Int), vs = [.ref a] ∧ SqL K H a (ns.map V.int) ∧ ∀ H' d l ns, Same H H' → DrawAt H' d l ns → Q (.ref d) H'
def spTake : Sp := fun vs H Q _ => ∃ (d l : Addr) (ns : List Int) (m : Int), vs = [.ref d, .int m] ∧ DrawAt H d l ns ∧ 1 ≤ m ∧ m ≤ 1000 ∧ ∀ H' r, SameX d H H' → DrawAt H' d l ns → 0 ≤ r → r < m → Q (.int r) H'
def spSigned : Sp := fun vs H Q _ => ∃ (d l : Addr) (ns : List Int) (m : Int), vs = [.ref d, .int m] ∧ DrawAt H d l ns ∧ 0 ≤ m ∧ m ≤ 100 ∧ ∀ H' r, SameX d H H' → DrawAt H' d l ns → -m ≤ r → r ≤ m → Q (.int r) H'
def spInt : Sp := fun vs H Q _ => ∃ n : Int, vs = [.int n] ∧ Q (.bl true) H
/-- what stands behind a statement, once for all the ways that lead there -/
theorem cut_seq {t rest : TS} {D : Ends} {σ : L2.St} {H : Hp} (Pv : L2.St → Hp → Prop) (hr : ∀ σ H, Pv σ H → rest D σ H) (h : (∀ σ H, Pv σ H → rest D σ H) → tSeq t rest D σ H) : tSeq t rest D σ H := h hr
section
variable {P : Program} {w : World} {K : PySem.W.Frag} {mg : Str → Option Value} {base : Heap}
theorem ok_begin {f : Addr} {fd : FuncData} (F : Fun K "_law_begin" "_law_begin" sBegin f fd) (mi : mg "int" = none) (ml : mg "list" = none) : FnOk P w K mg base CX0 1 f fd ["_law_script"] (spBegin K) := by
  refine F.ok scBegin (fun vs H Q E h => ?_) (fun cdv A outer s H vs Q E hr h => ?_)
  · obtain ⟨a, ns, rfl, _⟩ := h
    rfl
  · obtain ⟨a, ns, rfl, hS, q⟩ := h
    refine ⟨_, pss_cons (ps_set (i := 1) scBegin.nd rfl (.inl rfl) pe_int)
      (pss_cons (ps_for PassesOwn.never rfl (pi_list (pv 0)) (pg_name (i := 2) scBegin.nd rfl (.inl rfl))
        (pss_one (ps_set (i := 1) scBegin.nd rfl (.inl rfl) (pe_op op_mod (pe_op op_add (pe_op op_add (pe_op op_mul (pv 1) pe_int) (pe_op op_mod (pe_callTy call_int1 (by rfl) mi (by decide +kernel) (pa_cons (pv 2) pa_nil)) pe_int)) pe_int) pe_int))))
      (pss_one (ps_ret (pe_lst (pa_cons (pe_callTy call_list_of (by rfl) ml (by decide +kernel) (pa_cons (pv 0) pa_nil)) (pa_cons pe_int (pa_cons pe_int (pa_cons (pv 1) pa_nil)))))))), ?_⟩
    refine ⟨_, rfl, a, rfl, ⟨_, hS⟩, for_list (K := K) (a := a) (xs := ns.map V.int) (fun i σ H' => ∃ (z : Int) (y2 : Option V), σ = [some (.ref a), some (.int z), y2] ∧ H' = H)
      ⟨1, _, rfl, rfl⟩ (fun i σ H' _ ⟨_, _, _, e⟩ => by rw [e]; exact hS) ?_ ?_⟩
    · rintro i x σ H' hi ⟨z, y2, rfl, rfl⟩
      obtain ⟨c, hc, rfl⟩ : ∃ c, ns[i]? = some c ∧ x = V.int c := by
        rw [List.getElem?_map] at hi
        cases e : ns[i]? with
        | none => rw [e] at hi; cases hi
        | some c => rw [e] at hi; exact ⟨c, rfl, (Option.some.inj hi).symm⟩
      refine ⟨_, rfl, _, _, rfl, rfl, .inr ⟨by decide, by decide⟩, _, rfl, .inl ⟨_, rfl, _, _, rfl, rfl, (by show (0 : Int) < 2147483629; decide), _, _, rfl, rfl, _, _, rfl, rfl, _, _, rfl, rfl, (by show (0 : Int) < 2147483647; decide), ?_⟩⟩
      exact ⟨_, _, rfl, rfl⟩
    · rintro σ H' ⟨z, y2, rfl, rfl⟩
      refine ⟨_, rfl, a, _, rfl, .inl hS, fun l nl => ⟨_, rfl, smallE (by show 4 ≤ 10000; decide), fun d nd => ?_⟩⟩
      have ne : l ≠ d := fun z => by rw [z, upd_same] at nd; cases nd
      exact q _ d l ns ((same_upd nl).trans (same_upd nd)) ⟨0, 0, z, upd_same, by rw [upd_ne ne]; exact upd_same, Int.le_refl _, Int.le_refl _, ne⟩
theorem ok_take {f : Addr} {fd : FuncData} (F : Fun K "_law_take" "_law_take" sTake f fd) (ml : mg "len" = none) (ma : mg "abs" = none) (mi : mg "int" = none) : FnOk P w K mg base CX0 1 f fd ["_law_d", "_law_many"] spTake := by
  refine F.ok scTake (fun vs H Q E h => ?_) (fun cdv A outer s H vs Q E hr h => ?_)
  · obtain ⟨d, l, ns, m, rfl, _⟩ := h
    rfl
  · obtain ⟨d, l, ns, m, rfl, ⟨p, q, s, D⟩, hm1, hm2, k⟩ := h
    refine ⟨_, pss_cons (ps_if (PW.pt (pw_and (pt_cmpR op_eq (pe_ix ix_list (pv 0) pe_int (fun _ _ => rfl)) pe_int (nomark _))
          (pw_and1 (pt_cmpR op_lt (pe_ix ix_list (pv 0) pe_int (fun _ _ => rfl)) (pe_callB call_len_seq (by rfl) ml PySem.boot_len (pa_cons (pe_ix ix_list (pv 0) pe_int (fun _ _ => rfl)) pa_nil)) (nomark _)))))
        (pss_cons (ps_asg (pe_callB call_abs (by rfl) ma (by decide +kernel) (pa_cons (pe_callTy call_int1 (by rfl) mi (by decide +kernel) (pa_cons (pe_ix ix_list (pe_ix ix_list (pv 0) pe_int (fun _ _ => rfl)) (pe_ix ix_list (pv 0) pe_int (fun _ _ => rfl)) (fun _ _ => rfl)) pa_nil)) pa_nil)) (pg_sub (pv 0) pe_int set_list))
        (pss_cons (ps_asg (pe_op op_add (pe_ix ix_list (pv 0) pe_int (fun _ _ => rfl)) pe_int) (pg_sub (pv 0) pe_int set_list))
        (pss_one (ps_if (pt_cmpR op_lt (pe_ix ix_list (pv 0) pe_int (fun _ _ => rfl)) (pe_op op_pow pe_int pe_int) (nomark _))
          (pss_cons (ps_set (i := 2) scTake.nd rfl (.inl rfl) (pe_callTy call_int1 (by rfl) mi (by decide +kernel) (pa_cons (pe_ix ix_list (pv 0) pe_int (fun _ _ => rfl)) pa_nil)))
          (pss_cons (ps_asg pe_int (pg_sub (pv 0) pe_int set_list))
          (pss_one (ps_ret (pe_op op_mod (pv 2) (pv 1)))))) pss_nil)))) pss_nil)
      (pss_cons (ps_if (pt_cmpR op_gt (pe_ix ix_list (pv 0) pe_int (fun _ _ => rfl)) pe_int (nomark _))
        (pss_cons (ps_set (i := 3) scTake.nd rfl (.inl rfl) (pe_op op_mod (pe_callTy call_int1 (by rfl) mi (by decide +kernel) (pa_cons (pe_ix ix_list (pv 0) pe_int (fun _ _ => rfl)) pa_nil)) (pv 1)))
        (pss_cons (ps_asg (pe_op op_fdiv (pe_callTy call_int1 (by rfl) mi (by decide +kernel) (pa_cons (pe_ix ix_list (pv 0) pe_int (fun _ _ => rfl)) pa_nil)) (pv 1)) (pg_sub (pv 0) pe_int set_list))
        (pss_one (ps_ret (pv 3))))) pss_nil)
      (pss_cons (ps_asg (pe_op op_mod (pe_callTy call_int1 (by rfl) mi (by decide +kernel) (pa_cons (pe_op op_add (pe_op op_mul (pe_ix ix_list (pv 0) pe_int (fun _ _ => rfl)) pe_int) pe_int) pa_nil)) pe_int) (pg_sub (pv 0) pe_int set_list))
      (pss_one (ps_ret (pe_op op_mod (pe_callTy call_int1 (by rfl) mi (by decide +kernel) (pa_cons (pe_op op_fdiv (pe_ix ix_list (pv 0) pe_int (fun _ _ => rfl)) pe_int) pa_nil)) (pv 1)))))), ?_⟩
    have bnd : ∀ z : Int, 0 ≤ z % m ∧ z % m < m := fun z => ⟨Int.emod_nonneg z (by omega), Int.emod_lt_of_pos z (by omega)⟩
    refine cut_seq (fun σ H1 => σ = [some (.ref d), some (.int m), none, none] ∧ SameX d H H1 ∧ ∃ p q s, DrawSt H1 d l ns p q s) (fun σ H1 hp => ?_) (fun tail => ?_)
    · obtain ⟨rfl, sm, p, q, s, D⟩ := hp
      -- if d[2] > 0
      refine ⟨_, rfl, d, _, 2, _, rfl, rfl, SqL.of D.hd, atI_nat (j := 2) rfl, _, _, rfl, rfl, _, rfl, if2 (fun c1 => ?_) (fun c1 => ?_)⟩
      · refine ⟨_, rfl, d, _, 2, _, rfl, rfl, SqL.of D.hd, atI_nat (j := 2) rfl, .inl ⟨_, rfl, _, rfl, _, _, rfl, rfl, (by show (0 : Int) < m; omega), ?_⟩⟩
        refine ⟨_, rfl, d, _, 2, _, rfl, rfl, SqL.of D.hd, atI_nat (j := 2) rfl, .inl ⟨_, rfl, _, rfl, _, _, rfl, rfl, ⟨(by show (0 : Int) < m; omega), (by show m < 1073741824; omega)⟩, ?_⟩⟩
        refine ⟨_, rfl, d, _, 2, 2, rfl, rfl, D.hd, rfl, ?_⟩
        refine ⟨_, rfl, k _ _ (sm.trans sameX_upd) ⟨p, q / m, s, D.put D.hp (Int.ediv_nonneg D.hq (by omega))⟩ (bnd q).1 (bnd q).2⟩
      · -- d[3] = ..
        refine ⟨_, rfl, d, _, 3, _, rfl, rfl, SqL.of D.hd, atI_nat (j := 3) rfl, _, _, rfl, rfl, .inr ⟨by decide, by decide⟩, _, _, rfl, rfl, .inl ⟨_, rfl, _, _, rfl, rfl, (by show (0 : Int) < 2147483647; decide), ?_⟩⟩
        refine ⟨_, rfl, d, _, 3, 3, rfl, rfl, D.hd, rfl, ?_⟩
        refine ⟨_, rfl, d, _, 3, _, rfl, rfl, SqL.of upd_same, atI_nat (j := 3) rfl, _, _, rfl, rfl, ⟨(by show (0 : Int) < 3; decide), (by show (3 : Int) < 1073741824; decide)⟩, .inl ⟨_, rfl, _, rfl, _, _, rfl, rfl, (by show (0 : Int) < m; omega), ?_⟩⟩
        exact k _ _ (sm.trans sameX_upd) ⟨p, q, _, D.put D.hp D.hq⟩ (bnd _).1 (bnd _).2
    · -- the first test
      refine ⟨_, rfl, d, _, 2, _, rfl, rfl, SqL.of D.hd, atI_nat (j := 2) rfl, rfl, _, rfl, if2 (fun c1 => ?_) (fun c1 => iteF (tail _ _ ⟨rfl, SameX.refl d H, p, q, s, D⟩))⟩
      refine ⟨_, rfl, d, _, 1, _, rfl, rfl, SqL.of D.hd, atI_nat (j := 1) rfl, _, rfl, d, _, 0, _, rfl, rfl, SqL.of D.hd, atI_nat (j := 0) rfl, l, _, rfl, .inl (SqL.of D.hl), _, _, rfl, rfl, _, rfl, if2 (fun c2 => ?_) (fun c2 => tail _ _ ⟨rfl, SameX.refl d H, p, q, s, D⟩)⟩
      have hp := D.hp
      obtain ⟨j, rfl⟩ : ∃ j : Nat, p = j := ⟨p.toNat, by omega⟩
      have hj : j < ns.length := by
        rw [List.length_map] at c2
        omega
      have hx : (ns.map V.int)[j]? = some (.int ns[j]) := by
        rw [List.getElem?_map, List.getElem?_eq_getElem hj]
        rfl
      -- d[2] = abs(int(d[0][d[1]]))
      refine ⟨_, rfl, d, _, 0, _, rfl, rfl, SqL.of D.hd, atI_nat (j := 0) rfl, _, rfl, d, _, 1, _, rfl, rfl, SqL.of D.hd, atI_nat (j := 1) rfl, l, _, _, _, rfl, rfl, SqL.of D.hl, atI_nat hx, .inl ⟨_, rfl, _, rfl, ?_⟩⟩
      refine ⟨_, rfl, d, _, 2, 2, rfl, rfl, D.hd, rfl, ?_⟩
      have D1 : DrawSt (upd H d (.lst ([V.ref l, V.int (j : Int), V.int q, V.int s].set 2 (V.int (if ns[j] < 0 then -ns[j] else ns[j]))))) d l ns j (if ns[j] < 0 then -ns[j] else ns[j]) s := D.put D.hp (by split <;> omega)
      have s1 : SameX d H (upd H d (.lst ([V.ref l, V.int (j : Int), V.int q, V.int s].set 2 (V.int (if ns[j] < 0 then -ns[j] else ns[j]))))) := sameX_upd
      generalize (upd H d (.lst ([V.ref l, V.int (j : Int), V.int q, V.int s].set 2 (V.int (if ns[j] < 0 then -ns[j] else ns[j]))))) = H1 at *
      generalize (if ns[j] < 0 then -ns[j] else ns[j]) = q1 at *
      -- d[1] = d[1] + 1
      refine ⟨_, rfl, d, _, 1, _, rfl, rfl, SqL.of D1.hd, atI_nat (j := 1) rfl, _, _, rfl, rfl, ?_⟩
      refine ⟨_, rfl, d, _, 1, 1, rfl, rfl, D1.hd, rfl, ?_⟩
      have D2 : DrawSt (upd H1 d (.lst ([V.ref l, V.int (j : Int), V.int q1, V.int s].set 1 (V.int ((j : Int) + 1))))) d l ns (j + 1) q1 s := D1.put (by omega) D1.hq
      have s2 : SameX d H (upd H1 d (.lst ([V.ref l, V.int (j : Int), V.int q1, V.int s].set 1 (V.int ((j : Int) + 1))))) := s1.trans sameX_upd
      generalize (upd H1 d (.lst ([V.ref l, V.int (j : Int), V.int q1, V.int s].set 1 (V.int ((j : Int) + 1))))) = H2 at *
      -- if d[2] < 10 ** 18
      refine ⟨_, rfl, d, _, 2, _, rfl, rfl, SqL.of D2.hd, atI_nat (j := 2) rfl, _, _, rfl, rfl, ⟨by decide, by decide, by decide⟩, _, _, rfl, rfl, _, rfl, if2 (fun c3 => ?_) (fun c3 => tail _ _ ⟨rfl, s2, _, _, _, D2⟩)⟩
      refine ⟨_, rfl, d, _, 2, _, rfl, rfl, SqL.of D2.hd, atI_nat (j := 2) rfl, .inl ⟨_, rfl, ?_⟩⟩
      refine ⟨_, rfl, d, _, 2, 2, rfl, rfl, D2.hd, rfl, ?_⟩
      refine ⟨_, rfl, _, rfl, _, _, rfl, rfl, (by show (0 : Int) < m; omega), ?_⟩
      exact k _ _ (s2.trans sameX_upd) ⟨_, 0, s, D2.put D2.hp (Int.le_refl _)⟩ (bnd _).1 (bnd _).2
theorem ok_signed {f fT : Addr} {fd fdT : FuncData} (F : Fun K "_law_signed" "_law_signed" sSigned f fd)
    (GT : FnOk P w K mg base CX0 1 fT fdT ["_law_d", "_law_many"] spTake) (gT : mg "_law_take" = some (.ref fT)) (kT : PySem.W.keepIn K (.ref fT) = true) (bT : Binds K fdT ["_law_d", "_law_many"] []) :
    FnOk P w K mg base CX0 2 f fd ["_law_d", "_law_most"] spSigned := by
  refine F.ok scSigned (fun vs H Q E h => ?_) (fun cdv A outer s H vs Q E hr h => ?_)
  · obtain ⟨d, l, ns, m, rfl, _⟩ := h
    rfl
  · obtain ⟨d, l, ns, m, rfl, hd, hm1, hm2, k⟩ := h
    refine ⟨_, pss_one (ps_ret (pe_op op_sub (pe_call GT hr (by rfl) gT kT bT .nil pass0 (pa_cons (pv 0) (pa_cons (pe_op op_add (pe_op op_mul pe_int (pv 1)) pe_int) pa_nil))) (pv 1))), ?_⟩
    refine ⟨_, rfl, _, rfl, _, _, rfl, rfl, .inl ⟨by decide, by decide⟩, _, _, rfl, rfl, d, l, ns, _, rfl, hd, by omega, by omega, fun H' r sm hd' h1 h2 => ?_⟩
    exact ⟨_, rfl, _, _, rfl, rfl, k H' _ sm hd' (by omega) (by omega)⟩
theorem ok_int {f : Addr} {fd : FuncData} (F : Fun K "_law_int" "_law_int" sInt f fd) (ms : mg "isinstance" = none) (mi : mg "int" = none) (mb : mg "bool" = none) : FnOk P w K mg base CX0 1 f fd ["_law_actual"] spInt := by
  refine F.ok scInt (fun vs H Q E h => ?_) (fun cdv A outer s H vs Q E hr h => ?_)
  · obtain ⟨n, rfl, _⟩ := h
    rfl
  · obtain ⟨n, rfl, k⟩ := h
    refine ⟨_, pss_one (ps_ret (pe_and (pe_callB call_isi (by rfl) ms (by decide +kernel) (pa_cons (pv 0) (pa_cons (pe_bltn (v := .ty "int") (u := .type "int") (by rfl) mi (by decide +kernel) rfl) pa_nil)))
      (pe_one (pe_not (pe_callB call_isi (by rfl) ms (by decide +kernel) (pa_cons (pv 0) (pa_cons (pe_bltn (v := .ty "bool") (u := .type "bool") (by rfl) mb (by decide +kernel) rfl) pa_nil))))))), ?_⟩
    refine ⟨_, rfl, _, _, .type "int", .type "int", true, rfl, .ty _, .base (.int _), kit_ty (by decide +kernel), true, rfl, iteT ?_⟩
    exact ⟨_, rfl, _, _, .type "int", .type "bool", false, rfl, .ty _, .base (.int _), kit_ty (by decide +kernel), false, rfl, k⟩
end
end Ts
/-! TsF: the law's own search: _law_limits, _law_best, _law_can. -/
namespace Ts
open PySem PySem.Spec PyProof.Rows L2 TsM
theorem scLLims : FnScope ["_law_distances_here", "_law_limits_here", "_law_k", "_law_i", "_law_j", "_law_low", "_law_high"] ["_law_distances_here"] (defScope sLLims) := ⟨rfl, rfl, rfl, by decide +kernel, rfl, by decide +kernel, by decide +kernel⟩
theorem scBest : FnScope ["_law_count", "_law_distances_here", "_law_positions", "_law_k", "_law_i", "_law_j", "_law_n"] ["_law_count", "_law_distances_here"] (defScope sBest) := ⟨rfl, rfl, rfl, by decide +kernel, rfl, by decide +kernel, by decide +kernel⟩
theorem scCan : FnScope ["_law_count", "_law_distances_here", "_law_i", "_law_j", "_law_n"] ["_law_count", "_law_distances_here", "_law_i", "_law_j", "_law_n"] (defScope sCan) := ⟨rfl, rfl, rfl, by decide +kernel, rfl, by decide +kernel, by decide +kernel⟩
def spLLims : Sp := fun vs H Q _ => ∃ (D : Addr) (ds : List Dist), vs = [.ref D] ∧ DsAt H D ds ∧ ds.length ≤ 401 ∧ ∀ H' L, Same H H' → H L = none → Ls3At H' L (limsOf ds) → Q (.ref L) H'
def spBest : Sp := fun vs H Q _ => ∃ (n : Nat) (D : Addr) (ds : List Dist), vs = [.int n, .ref D] ∧ DsAt H D ds ∧ ds.length ≤ 401 ∧ n ≤ 60 ∧ DBnd n ds ∧
  (Feas (limsOf ds) → ∀ H' r, Same H H' → Q (.ref r) H') ∧ (¬ Feas (limsOf ds) → ∀ H', Same H H' → Q .non H')
def spCan : Sp := fun vs H Q _ => ∃ (n : Nat) (D : Addr) (ds : List Dist) (i j : Nat) (c : Int), vs = [.int n, .ref D, .int i, .int j, .int c] ∧ DsAt H D ds ∧ DsOk n ds ∧ i < n ∧ j < n ∧
  (Can ds i j c → ∀ H', Same H H' → Q (.bl true) H') ∧ (¬ Can ds i j c → ∀ H', Same H H' → Q (.bl false) H')
section
variable {P : Program} {w : World} {K : PySem.W.Frag} {mg : Str → Option Value} {base : Heap}
theorem ok_llims {f : Addr} {fd : FuncData} (F : Fun K "_law_limits" "_law_limits" sLLims f fd) (ml : mg "len" = none) (mr : mg "range" = none) : FnOk P w K mg base CX0 1 f fd ["_law_distances_here"] spLLims := by
  refine F.ok scLLims (fun vs H Q E h => ?_) (fun cdv A outer s H vs Q E hr h => ?_)
  · obtain ⟨D, ds, rfl, _⟩ := h
    rfl
  · obtain ⟨D, ds, rfl, hD, len, q⟩ := h
    refine ⟨_, pss_cons (ps_set (i := 1) scLLims.nd rfl (.inl rfl) (pe_lst pa_nil))
      (pss_cons (ps_for PassesOwn.never rfl (pi_range1 rfl mr (pa_cons (pe_callB call_len_seq (by rfl) ml PySem.boot_len (pa_cons (pv 0) pa_nil)) pa_nil)) (pg_name (i := 2) scLLims.nd rfl (.inl rfl))
        (pss_cons (ps_asg (pe_ix ix_tup (pv 0) (pv 2) (fun _ _ => rfl)) (pg_tup (by rfl) (pgs_cons (pg_name (i := 3) scLLims.nd rfl (.inl rfl)) (pgs_cons (pg_name (i := 4) scLLims.nd rfl (.inl rfl)) (pgs_cons (pg_name (i := 5) scLLims.nd rfl (.inl rfl)) (pgs_cons (pg_name (i := 6) scLLims.nd rfl (.inl rfl)) pgs_nil))))))
        (pss_one (ps_set (i := 1) scLLims.nd rfl (.inl rfl) (pe_op op_cat (pv 1) (pe_lst (pa_cons (pe_tup (pa_cons (pv 3) (pa_cons (pv 4) (pa_cons (pv 6) pa_nil)))) (pa_cons (pe_tup (pa_cons (pv 4) (pa_cons (pv 3) (pa_cons (pe_op op_sub pe_int (pv 5)) pa_nil)))) pa_nil))))))))
      (pss_one (ps_ret (pv 1)))), ?_⟩
    refine ⟨Nat.zero_le _, fun L nL => ?_⟩
    have s1 : Same H (upd H L (.lst [])) := same_upd nL
    obtain ⟨ts, hT, hR⟩ := hD
    have hlen := hR.length
    refine ⟨_, rfl, D, _, rfl, .inr (SqT.of (s1 _ _ hT)), ((ts.map V.ref).length : Nat), rfl, by omega, by rw [List.length_map]; omega, ?_⟩
    refine for_range (lo := 0) (n := ((ts.map V.ref).length : Int).toNat) (fun i σ H' => ∃ (L : Addr) (y2 y3 y4 y5 y6 : Option V), σ = [some (.ref D), some (.ref L), y2, y3, y4, y5, y6] ∧ Same H H' ∧ H L = none ∧ ∃ us : List Addr, H' L = some (.lst (us.map V.ref)) ∧ Rows (LimT3 H') us (limsOf (ds.take i)))
      ⟨L, _, _, _, _, _, rfl, s1, nL, [], upd_same, trivial⟩ ?_ ?_
    · rintro i σ H' hi ⟨L, y2, y3, y4, y5, y6, rfl, sm, nL, us, hus, hur⟩
      have hi' : i < ds.length := by
        rw [List.length_map] at hi
        omega
      have hd := List.getElem?_eq_getElem hi'
      obtain ⟨t, ht, hdt⟩ := hR.get hd
      have hx : (ts.map V.ref)[i]? = some (.ref t) := by rw [List.getElem?_map, ht]; rfl
      have hul := hur.length
      rw [limsOf_length, List.length_take] at hul
      -- i, j, low, high = distances[k]
      refine ⟨_, rfl, _, rfl, D, _, 0 + (i : Int), _, rfl, rfl, SqT.of (sm _ _ hT), by rw [Int.zero_add]; exact atI_nat hx, t, _, rfl, SqT.of (sm _ _ hdt), rfl, _, _, rfl, _, _, rfl, _, _, rfl, _, _, rfl, rfl, ?_⟩
      -- limits + [(i, j, high), (j, i, 0 - low)]
      refine ⟨_, rfl, _, rfl, _, rfl, _, rfl, smallE (by show 3 ≤ 10000; decide), fun p1 n1 => ?_⟩
      have e1 := upd_same (H := H') (a := p1) (o := .tup [.int ds[i].i, .int ds[i].j, .int ds[i].hi])
      have m1 : Same H' (upd H' p1 (.tup [.int ds[i].i, .int ds[i].j, .int ds[i].hi])) := same_upd n1
      generalize (upd H' p1 (.tup [.int ds[i].i, .int ds[i].j, .int ds[i].hi])) = H1 at *
      refine ⟨_, rfl, _, rfl, _, rfl, _, _, rfl, rfl, smallE (by show 3 ≤ 10000; decide), fun p2 n2 => ?_⟩
      have e2 := upd_same (H := H1) (a := p2) (o := .tup [.int ds[i].j, .int ds[i].i, .int (0 - ds[i].lo)])
      have m2 : Same H1 (upd H1 p2 (.tup [.int ds[i].j, .int ds[i].i, .int (0 - ds[i].lo)])) := same_upd n2
      refine ⟨smallE (by show 2 ≤ 10000; decide), fun p3 n3 => ?_⟩
      generalize (upd H1 p2 (.tup [.int ds[i].j, .int ds[i].i, .int (0 - ds[i].lo)])) = H2 at *
      have m3 : Same H2 (upd H2 p3 (.lst [.ref p1, .ref p2])) := same_upd n3
      refine ⟨L, p3, us.map V.ref, [.ref p1, .ref p2], rfl, rfl, m3 _ _ (m2 _ _ (m1 _ _ hus)), upd_same, by rw [List.length_map]; exact smallE (by show us.length + 2 ≤ 10000; omega), fun p4 n4 => ?_⟩
      have m4 : Same (upd H2 p3 (.lst [.ref p1, .ref p2])) (upd (upd H2 p3 (.lst [.ref p1, .ref p2])) p4 (.lst (us.map V.ref ++ [.ref p1, .ref p2]))) := same_upd n4
      have mm : Same H' (upd (upd H2 p3 (.lst [.ref p1, .ref p2])) p4 (.lst (us.map V.ref ++ [.ref p1, .ref p2]))) := m1.trans (m2.trans (m3.trans m4))
      have nH : H p4 = none := (sm.trans (m1.trans (m2.trans m3))).free n4
      refine ⟨p4, _, _, _, _, _, rfl, sm.trans mm, nH, us ++ [p1] ++ [p2], ?_, ?_⟩
      · rw [upd_same, List.map_append, List.map_append, List.append_assoc]
        rfl
      · rw [limsOf_take hd, show limsOf (ds.take i) ++ [(ds[i].i, ds[i].j, ds[i].hi), (ds[i].j, ds[i].i, -ds[i].lo)] = limsOf (ds.take i) ++ [(ds[i].i, ds[i].j, ds[i].hi)] ++ [(ds[i].j, ds[i].i, -ds[i].lo)] by simp]
        refine Rows.snoc ?_ (Rows.snoc ?_ (hur.mono fun t e q => mm _ _ q))
        · show upd (upd H2 p3 (.lst [.ref p1, .ref p2])) p4 (.lst (us.map V.ref ++ [.ref p1, .ref p2])) p2 = some (.tup [.int ds[i].j, .int ds[i].i, .int (-ds[i].lo)])
          rw [show -ds[i].lo = 0 - ds[i].lo by omega]
          exact m4 _ _ (m3 _ _ e2)
        · exact m4 _ _ (m3 _ _ (m2 _ _ e1))
    · rintro σ H' ⟨L, y2, y3, y4, y5, y6, rfl, sm, nL, us, hus, hur⟩
      have e : ds.take ((ts.map V.ref).length : Int).toNat = ds := List.take_of_length_le (by rw [List.length_map]; omega)
      rw [e] at hur
      exact ⟨_, rfl, q H' L sm nL ⟨us, hus, hur⟩⟩
end
end Ts
/-! TsG: _law_best, _law_can. -/
namespace Ts
open PySem PySem.Spec PyProof.Rows L2 TsM
theorem stepP_put (p : Nat → Int) (e : Lim) : put p e.2.1 (if p e.1 + e.2.2 < p e.2.1 then p e.1 + e.2.2 else p e.2.1) = stepP p e := by
  by_cases c : p e.1 + e.2.2 < p e.2.1
  · rw [if_pos c]
    exact (if_pos c).symm
  · rw [if_neg c, show stepP p e = p from if_neg c]
    funext v
    by_cases z : v = e.2.1
    · rw [z, put_same]
    · rw [put_ne z]
theorem Holds.snoc {ls : List Lim} {x : Nat → Int} {i : Nat} {e : Lim} (he : ls[i]? = some e) (h : Holds (ls.take i) x) (q : x e.2.1 ≤ x e.1 + e.2.2) : Holds (ls.take (i + 1)) x := fun e' he' => by
  rw [take_more he] at he'
  rcases List.mem_append.mp he' with z | z
  · exact h e' z
  · rw [List.mem_singleton] at z
    rw [z]
    exact q
section
variable {P : Program} {w : World} {K : PySem.W.Frag} {mg : Str → Option Value} {base : Heap}
theorem ok_best {f fL : Addr} {fd fdL : FuncData} (F : Fun K "_law_best" "_law_best" sBest f fd) (mr : mg "range" = none) (mm : mg "min" = none) (mt : mg "tuple" = none)
    (GL : FnOk P w K mg base CX0 1 fL fdL ["_law_distances_here"] spLLims) (gL : mg "_law_limits" = some (.ref fL)) (kL : PySem.W.keepIn K (.ref fL) = true) (bL : Binds K fdL ["_law_distances_here"] []) :
    FnOk P w K mg base CX0 2 f fd ["_law_count", "_law_distances_here"] spBest := by
  refine F.ok scBest (fun vs H Q E h => ?_) (fun cdv A outer s H vs Q E hr h => ?_)
  · obtain ⟨n, D, ds, rfl, _⟩ := h
    rfl
  · obtain ⟨n, D, ds, rfl, hD, len, hn, hb, qF, qN⟩ := h
    refine ⟨_, pss_cons (ps_set (i := 2) scBest.nd rfl (.inl rfl) (pe_op op_rep (pe_lst (pa_cons pe_int pa_nil)) (pv 0)))
      (pss_cons (ps_for PassesOwn.never rfl (pi_range1 rfl mr (pa_cons (pe_op op_add (pv 0) pe_int) pa_nil)) (pg_name (i := 3) scBest.nd rfl (.inl rfl))
        (pss_one (ps_for PassesOwn.never rfl (pi_list (pe_call GL hr (by rfl) gL kL bL .nil pass0 (pa_cons (pv 1) pa_nil))) (pg_tup (by rfl) (pgs_cons (pg_name (i := 4) scBest.nd rfl (.inl rfl)) (pgs_cons (pg_name (i := 5) scBest.nd rfl (.inl rfl)) (pgs_cons (pg_name (i := 6) scBest.nd rfl (.inl rfl)) pgs_nil))))
          (pss_one (ps_asg (pe_callB (call_min2 rfl) (by rfl) mm (by decide +kernel) (pa_cons (pe_ix ix_list (pv 2) (pv 5) (fun _ _ => rfl)) (pa_cons (pe_op op_add (pe_ix ix_list (pv 2) (pv 4) (fun _ _ => rfl)) (pv 6)) pa_nil))) (pg_sub (pv 2) (pv 5) set_list))))))
      (pss_cons (ps_for PassesOwn.never rfl (pi_list (pe_call GL hr (by rfl) gL kL bL .nil pass0 (pa_cons (pv 1) pa_nil))) (pg_tup (by rfl) (pgs_cons (pg_name (i := 4) scBest.nd rfl (.inl rfl)) (pgs_cons (pg_name (i := 5) scBest.nd rfl (.inl rfl)) (pgs_cons (pg_name (i := 6) scBest.nd rfl (.inl rfl)) pgs_nil))))
        (pss_one (ps_if (pt_cmpR op_gt (pe_ix ix_list (pv 2) (pv 5) (fun _ _ => rfl)) (pe_op op_add (pe_ix ix_list (pv 2) (pv 4) (fun _ _ => rfl)) (pv 6)) (nomark _)) (pss_one (ps_ret pe_non)) pss_nil)))
      (pss_one (ps_ret (pe_callTy call_tuple_of (by rfl) mt (by decide +kernel) (pa_cons (pv 2) pa_nil)))))), ?_⟩
    have hB : Bnd n (limsOf ds) := limsOf_bnd hb
    -- positions = [0] * count
    refine ⟨smallE (by show 1 ≤ 10000; decide), fun l1 nl1 => ⟨_, rfl, l1, _, _, rfl, rfl, upd_same, by omega, by omega, smallE (by show 1 * (n : Int).toNat ≤ 10000; omega), fun Pa nP => ?_⟩⟩
    rw [Int.toNat_natCast, rep_tab]
    have nP1 : H Pa = none := by
      have z : Pa ≠ l1 := fun z => by rw [z, upd_same] at nP; cases nP
      rw [upd_ne z] at nP
      exact nP
    have s0 : Same H (upd (upd H l1 (.lst [.int 0])) Pa (.lst (tab n fun _ => .int 0))) := (same_upd nl1).trans (same_upd nP)
    have hP0 : (upd (upd H l1 (.lst [.int 0])) Pa (.lst (tab n fun _ => .int 0))) Pa = some (.lst (tab n fun _ => .int 0)) := upd_same
    generalize (upd (upd H l1 (.lst [.int 0])) Pa (.lst (tab n fun _ => .int 0))) = H1 at *
    -- the rounds
    refine ⟨_, rfl, _, _, rfl, rfl, ((n : Int) + 1), rfl, by omega, by omega, ?_⟩
    refine for_range (lo := 0) (n := ((n : Int) + 1).toNat) (fun k σ H' => ∃ y3 y4 y5 y6, σ = [some (.int n), some (.ref D), some (.ref Pa), y3, y4, y5, y6] ∧ Same H H' ∧ H' Pa = some (.lst (tab n fun v => .int (roundsP (limsOf ds) k (fun _ => 0) v))))
      ⟨_, _, _, _, rfl, s0, hP0⟩ ?_ ?_
    · rintro k σ H' hk ⟨y3, y4, y5, y6, rfl, sm, hP⟩
      refine ⟨_, rfl, D, ds, rfl, hD.same sm, len, fun Hc L sc nL hL => ?_⟩
      obtain ⟨ts, hT, hR⟩ := hL
      have hlen := hR.length
      have hPc := sc _ _ hP
      have nLP : L ≠ Pa := fun z => by rw [z, hP] at nL; cases nL
      refine ⟨L, rfl, ⟨_, SqL.of hT⟩, for_list (K := K) (a := L) (xs := ts.map V.ref) (fun i σ H' => ∃ y3 y4 y5 y6, σ = [some (.int n), some (.ref D), some (.ref Pa), y3, y4, y5, y6] ∧ SameX Pa Hc H' ∧ H' Pa = some (.lst (tab n fun v => .int (((limsOf ds).take i).foldl stepP (roundsP (limsOf ds) k (fun _ => 0)) v))))
        ⟨_, _, _, _, rfl, SameX.refl _ _, hPc⟩ (fun i σ H' _ ⟨_, _, _, _, _, e, _⟩ => SqL.of (e _ _ nLP hT)) ?_ ?_⟩
      · rintro i x σ H'' hi ⟨y3, y4, y5, y6, rfl, sx, hP'⟩
        obtain ⟨t, ht, rfl⟩ := ref_at hi
        obtain ⟨e, he, het⟩ := hR.at ht
        obtain ⟨b1, b2⟩ := hB e (List.mem_of_getElem? he)
        have het' : H'' t = some (.tup [.int e.1, .int e.2.1, .int e.2.2]) := sx _ _ (ne_of het hPc (by intro z; cases z)) het
        rw [foldl_more he]
        generalize ((limsOf ds).take i).foldl stepP (roundsP (limsOf ds) k (fun _ => 0)) = c at *
        refine ⟨t, _, rfl, SqT.of het', rfl, _, _, rfl, _, _, rfl, _, _, rfl, rfl, ?_⟩
        refine ⟨_, rfl, _, rfl, Pa, _, _, _, rfl, rfl, SqL.of hP', tab_at b2, _, rfl, _, rfl, Pa, _, _, _, rfl, rfl, SqL.of hP', tab_at b1, _, rfl, _, _, rfl, rfl, _, _, rfl, ?_⟩
        refine ⟨_, rfl, _, rfl, Pa, _, _, _, rfl, rfl, hP', by rw [tab_length]; exact ixN_nat b2, ?_⟩
        refine ⟨_, _, _, _, rfl, sx.trans sameX_upd, ?_⟩
        rw [upd_same, tab_set, ← stepP_put]
        exact congrArg (fun g => some (HO.lst (tab n g))) (put_map V.int c _ _)
      · rintro σ H'' ⟨y3, y4, y5, y6, rfl, sx, hP'⟩
        rw [List.length_map, hlen, List.take_length] at hP'
        exact ⟨_, _, _, _, rfl, fun b o hb => sx _ _ (ne_of_none hb nP1) (sc _ _ (sm _ _ hb)), hP'⟩
    · rintro σ H' ⟨y3, y4, y5, y6, rfl, sm, hP⟩
      rw [show ((n : Int) + 1).toNat = n + 1 by omega] at hP
      have hbest := best_iff (n := n) hb
      generalize roundsP (limsOf ds) (n + 1) (fun _ => 0) = c at *
      -- the check
      refine ⟨_, rfl, D, ds, rfl, hD.same sm, len, fun Hc L sc nL hL => ?_⟩
      obtain ⟨ts, hT, hR⟩ := hL
      have hlen := hR.length
      have hPc := sc _ _ hP
      refine ⟨L, rfl, ⟨_, SqL.of hT⟩, for_list (K := K) (a := L) (xs := ts.map V.ref) (fun i σ H' => ∃ y3 y4 y5 y6, σ = [some (.int n), some (.ref D), some (.ref Pa), y3, y4, y5, y6] ∧ H' = Hc ∧ Holds ((limsOf ds).take i) c)
        ⟨_, _, _, _, rfl, rfl, fun e he => nomatch he⟩ (fun i σ H' _ ⟨_, _, _, _, _, e, _⟩ => by rw [e]; exact SqL.of hT) ?_ ?_⟩
      · rintro i x σ H'' hi ⟨y3, y4, y5, y6, rfl, rfl, hh⟩
        obtain ⟨t, ht, rfl⟩ := ref_at hi
        obtain ⟨e, he, het⟩ := hR.at ht
        have hm := List.mem_of_getElem? he
        obtain ⟨b1, b2⟩ := hB e hm
        refine ⟨t, _, rfl, SqT.of het, rfl, _, _, rfl, _, _, rfl, _, _, rfl, rfl, ?_⟩
        refine ⟨_, rfl, _, rfl, Pa, _, _, _, rfl, rfl, SqL.of hPc, tab_at b2, _, rfl, _, rfl, Pa, _, _, _, rfl, rfl, SqL.of hPc, tab_at b1, _, rfl, _, _, rfl, rfl, _, _, rfl, rfl, _, rfl, if2 (fun q1 => ?_) (fun q1 => ?_)⟩
        · refine qN (fun hf => ?_) _ (sm.trans sc)
          have := hbest.mpr hf e hm
          omega
        · exact ⟨_, _, _, _, rfl, rfl, Holds.snoc he hh (by omega)⟩
      · rintro σ H'' ⟨y3, y4, y5, y6, rfl, rfl, hh⟩
        rw [List.length_map, hlen, List.take_length] at hh
        refine ⟨_, rfl, Pa, _, rfl, .inl ⟨SqL.of hPc, fun r nr => ?_⟩⟩
        exact qF (hbest.mp hh) _ r ((sm.trans sc).trans (same_upd nr))
theorem ok_can {f fB : Addr} {fd fdB : FuncData} (F : Fun K "_law_can" "_law_can" sCan f fd)
    (GB : FnOk P w K mg base CX0 2 fB fdB ["_law_count", "_law_distances_here"] spBest) (gB : mg "_law_best" = some (.ref fB)) (kB : PySem.W.keepIn K (.ref fB) = true) (bB : Binds K fdB ["_law_count", "_law_distances_here"] []) :
    FnOk P w K mg base CX0 3 f fd ["_law_count", "_law_distances_here", "_law_i", "_law_j", "_law_n"] spCan := by
  refine F.ok scCan (fun vs H Q E h => ?_) (fun cdv A outer s H vs Q E hr h => ?_)
  · obtain ⟨n, D, ds, i, j, c, rfl, _⟩ := h
    rfl
  · obtain ⟨n, D, ds, i, j, c, rfl, hD, ok, hi, hj, qT, qF⟩ := h
    refine ⟨_, pss_one (ps_ret (pe_cmpR op_notN (pe_call GB hr (by rfl) gB kB bB .nil pass0 (pa_cons (pv 0) (pa_cons (pe_op op_catA (pv 1) (pe_tup (pa_cons (pe_tup (pa_cons (pv 2) (pa_cons (pv 3) (pa_cons (pv 4) (pa_cons (pv 4) pa_nil))))) pa_nil))) pa_nil))) pe_non (nomark _))), ?_⟩
    have k3 := ok.len
    obtain ⟨ts, hT, hR⟩ := hD
    have hlen := hR.length
    refine ⟨_, rfl, _, rfl, _, rfl, _, rfl, _, rfl, _, rfl, smallE (by show 4 ≤ 10000; decide), fun p1 n1 => ?_⟩
    have e1 := upd_same (H := H) (a := p1) (o := .tup [.int i, .int j, .int c, .int c])
    have m1 : Same H (upd H p1 (.tup [.int i, .int j, .int c, .int c])) := same_upd n1
    generalize (upd H p1 (.tup [.int i, .int j, .int c, .int c])) = H1 at *
    refine ⟨smallE (by show 1 ≤ 10000; decide), fun p2 n2 => ?_⟩
    have e2 := upd_same (H := H1) (a := p2) (o := .tup [.ref p1])
    have m2 : Same H1 (upd H1 p2 (.tup [.ref p1])) := same_upd n2
    generalize (upd H1 p2 (.tup [.ref p1])) = H2 at *
    have hb' : DBnd n (ds ++ [⟨i, j, c, c⟩]) := fun d hd => by
      rcases List.mem_append.mp hd with z | z
      · exact ok.bnd d z
      · rw [List.mem_singleton] at z
        rw [z]
        exact ⟨hi, hj⟩
    -- the law's search over one distance more
    have fin : ∀ (H3 : Hp) (D' : Addr), Same H H3 → DsAt H3 D' (ds ++ [⟨i, j, c, c⟩]) →
        spBest [.int n, .ref D'] H3 (fun x H' => V.non = V.non ∧ Q (.bl (!decide (x = V.non))) H') E0 := fun H3 D' sm hD' =>
      ⟨n, D', _, rfl, hD', by rw [List.length_append]; show ds.length + 1 ≤ 401; omega, ok.hi, hb', fun hf H4 r s4 => ⟨rfl, qT hf H4 (sm.trans s4)⟩, fun hf H4 s4 => ⟨rfl, qF hf H4 (sm.trans s4)⟩⟩
    refine ⟨D, p2, ts.map V.ref, [.ref p1], rfl, rfl, SqT.of (m2 _ _ (m1 _ _ hT)), SqT.of e2, by rw [List.length_map]; exact smallE (by show ts.length + 1 ≤ 10000; omega), fun z => ?_, (fun _ z => nomatch z), fun z _ p3 n3 => ?_⟩
    · have zt : ts = [] := List.map_eq_nil_iff.mp z
      have zd : ds = [] := List.length_eq_zero_iff.mp (by rw [← hlen, zt]; rfl)
      refine fin _ p2 (m1.trans m2) ⟨[p1], e2, ?_⟩
      rw [zd]
      exact ⟨m2 _ _ e1, trivial⟩
    · have m3 : Same H2 (upd H2 p3 (.tup (ts.map V.ref ++ [.ref p1]))) := same_upd n3
      refine fin _ p3 (m1.trans (m2.trans m3)) ⟨ts ++ [p1], by rw [upd_same, List.map_append]; rfl, ?_⟩
      exact Rows.snoc (m3 _ _ (m2 _ _ e1)) (hR.mono fun t d q => m3 _ _ (m2 _ _ (m1 _ _ q)))
end
end Ts
/-! TsH: _law_distances. -/
namespace Ts
open PySem PySem.Spec PyProof.Rows L2 TsM
theorem scDists : FnScope ["_law_d", "_law_count", "_law_k", "_law_truth", "_law_distances_here", "_law_i", "_law_j", "_law_wrong", "_law_gap"] ["_law_d", "_law_count"] (defScope sDists) := ⟨rfl, rfl, rfl, by decide +kernel, rfl, by decide +kernel, by decide +kernel⟩
def spDists : Sp := fun vs H Q _ => ∃ (d l : Addr) (ns : List Int) (n : Nat), vs = [.ref d, .int n] ∧ DrawAt H d l ns ∧ 1 ≤ n ∧ n ≤ 6 ∧ ∀ H' D ds, SameX d H H' → DrawAt H' d l ns → DsAt H' D ds → DsOk n ds → Q (.ref D) H'
/-- what stands through the draws of one turn -/
structure Car (H : Hp) (d l : Addr) (ns : List Int) (T Dl : Addr) (zs : List Int) (us : List Addr) (ds : List Dist) (H' : Hp) : Prop where
  sm : SameX d H H'
  dr : DrawAt H' d l ns
  tr : H' T = some (.lst (zs.map V.int))
  dl : H' Dl = some (.lst (us.map V.ref))
  ro : Rows (DistT H') us ds
theorem Car.step {H : Hp} {d l : Addr} {ns : List Int} {T Dl : Addr} {zs : List Int} {us : List Addr} {ds : List Dist} {H' H'' : Hp} (nT : T ≠ d) (nD : Dl ≠ d) (C : Car H d l ns T Dl zs us ds H') (s : SameX d H' H'') (dr : DrawAt H'' d l ns) : Car H d l ns T Dl zs us ds H'' := by
  obtain ⟨xs, hx⟩ := C.dr.lst
  exact ⟨C.sm.trans s, dr, s _ _ nT C.tr, s _ _ nD C.dl, C.ro.mono fun t e q => s _ _ (ne_of q hx (by intro z; cases z)) q⟩
/-- the distances so far are right -/
structure DsSo (n : Nat) (ds : List Dist) : Prop where
  bnd : DBnd n ds
  iv : ∀ d ∈ ds, -1000000 ≤ d.lo ∧ d.hi ≤ 1000000 ∧ d.lo ≤ d.hi
theorem DsSo.snoc {n : Nat} {ds : List Dist} {e : Dist} (S : DsSo n ds) (h1 : e.i < n) (h2 : e.j < n) (h3 : -1000000 ≤ e.lo) (h4 : e.hi ≤ 1000000) (h5 : e.lo ≤ e.hi) : DsSo n (ds ++ [e]) :=
  ⟨fun d hd => by
    rcases List.mem_append.mp hd with z | z
    · exact S.bnd d z
    · rw [List.mem_singleton] at z; rw [z]; exact ⟨h1, h2⟩, fun d hd => by
    rcases List.mem_append.mp hd with z | z
    · exact S.iv d z
    · rw [List.mem_singleton] at z; rw [z]; exact ⟨h3, h4, h5⟩⟩
section
variable {P : Program} {w : World} {K : PySem.W.Frag} {mg : Str → Option Value} {base : Heap}
theorem ok_dists {f fT fS : Addr} {fd fdT fdS : FuncData} (F : Fun K "_law_distances" "_law_distances" sDists f fd) (mr : mg "range" = none) (mt : mg "tuple" = none)
    (GT : FnOk P w K mg base CX0 1 fT fdT ["_law_d", "_law_many"] spTake) (gT : mg "_law_take" = some (.ref fT)) (kT : PySem.W.keepIn K (.ref fT) = true) (bT : Binds K fdT ["_law_d", "_law_many"] [])
    (GS : FnOk P w K mg base CX0 2 fS fdS ["_law_d", "_law_most"] spSigned) (gS : mg "_law_signed" = some (.ref fS)) (kS : PySem.W.keepIn K (.ref fS) = true) (bS : Binds K fdS ["_law_d", "_law_most"] []) :
    FnOk P w K mg base CX0 3 f fd ["_law_d", "_law_count"] spDists := by
  refine F.ok scDists (fun vs H Q E h => ?_) (fun cdv A outer s H vs Q E hr h => ?_)
  · obtain ⟨d, l, ns, n, rfl, _⟩ := h
    rfl
  · obtain ⟨d, l, ns, n, rfl, hd, hn1, hn2, q⟩ := h
    have hr1 : Room 1 _ := hr.mono (by decide)
    refine ⟨_, pss_cons (ps_setLc (i := 3) (own := [("_law_k", 2)]) (g := gName 2) (tt := tYes) rfl scDists.nd rfl rfl (sw_true rfl rfl rfl (by decide +kernel)) (pi_range1 rfl mr (pa_cons (pv 1) pa_nil))
        (blkOk_by (N := ["_law_d", "_law_count", "_law_k", "_law_truth", "_law_distances_here", "_law_i", "_law_j", "_law_wrong", "_law_gap"]) (sc := defScope sDists) (by decide +kernel))
        (fun _ _ _ _ _ => pg_name (i := 2) scDists.nd rfl (Or.inl rfl)) (fun _ _ _ _ _ => pts_nil)
        (fun _ _ _ _ _ => pe_call GS hr (by rfl) gS kS bS .nil pass0 (pa_cons (pv 0) (pa_cons pe_int pa_nil))))
      (pss_cons (ps_set (i := 4) scDists.nd rfl (.inl rfl) (pe_lst pa_nil))
      (pss_cons (ps_for PassesOwn.never rfl (pi_range1 rfl mr (pa_cons (pe_call GT hr1 (by rfl) gT kT bT .nil pass0 (pa_cons (pv 0) (pa_cons pe_int pa_nil))) pa_nil)) (pg_name (i := 2) scDists.nd rfl (.inl rfl))
        (pss_cons (ps_set (i := 5) scDists.nd rfl (.inl rfl) (pe_call GT hr1 (by rfl) gT kT bT .nil pass0 (pa_cons (pv 0) (pa_cons (pv 1) pa_nil))))
        (pss_cons (ps_set (i := 6) scDists.nd rfl (.inl rfl) (pe_call GT hr1 (by rfl) gT kT bT .nil pass0 (pa_cons (pv 0) (pa_cons (pv 1) pa_nil))))
        (pss_cons (ps_set (i := 7) scDists.nd rfl (.inl rfl) (pe_ifExp (pt_cmpR op_eq (pe_call GT hr1 (by rfl) gT kT bT .nil pass0 (pa_cons (pv 0) (pa_cons pe_int pa_nil))) pe_int (nomark _))
            (pe_call GS hr (by rfl) gS kS bS .nil pass0 (pa_cons (pv 0) (pa_cons pe_int pa_nil))) pe_int))
        (pss_cons (ps_set (i := 8) scDists.nd rfl (.inl rfl) (pe_op op_add (pe_op op_sub (pe_ix ix_list (pv 3) (pv 6) (fun _ _ => rfl)) (pe_ix ix_list (pv 3) (pv 5) (fun _ _ => rfl))) (pv 7)))
        (pss_one (ps_expr (pe_bm PySem.F.plainAttrs_list PySem.F.slot_list_append PySem.F.type_list_append mt_append (pv 4)
          (pa_cons (pe_tup (pa_cons (pv 5) (pa_cons (pv 6) (pa_cons (pe_op op_sub (pv 8) (pe_call GT hr1 (by rfl) gT kT bT .nil pass0 (pa_cons (pv 0) (pa_cons pe_int pa_nil))))
            (pa_cons (pe_op op_add (pv 8) (pe_call GT hr1 (by rfl) gT kT bT .nil pass0 (pa_cons (pv 0) (pa_cons pe_int pa_nil)))) pa_nil))))) pa_nil)))))))))
      (pss_one (ps_ret (pe_callTy call_tuple_of (by rfl) mt (by decide +kernel) (pa_cons (pv 4) pa_nil)))))), ?_⟩
    obtain ⟨xs0, hx0⟩ := hd.lst
    have hl0 := hd.lst'
    -- truth
    refine ⟨_, rfl, (n : Int), rfl, by omega, by omega, fun T nT => ?_⟩
    have nTd : T ≠ d := (ne_of_none hx0 nT).symm
    have nTl : T ≠ l := (ne_of_none hl0 nT).symm
    refine lc_range (lo := 0) (n := (n : Int).toNat) (fun i H' => ∃ zs : List Int, SameX d H H' ∧ DrawAt H' d l ns ∧ H' T = some (.lst (zs.map V.int)) ∧ zs.length = i ∧ ∀ z ∈ zs, -9 ≤ z ∧ z ≤ 9)
      ⟨[], SameX.of (same_upd nT), hd.same (same_upd nT), upd_same, rfl, fun z hz => nomatch hz⟩ (fun i H1 hi hp => ?_) (fun H1 hp => ?_)
    · obtain ⟨zs, sm, dr, hT, hl, hz⟩ := hp
      refine ⟨rfl, ?_⟩
      unfold tYes
      refine iteT ⟨_, rfl, d, l, ns, 9, rfl, dr, by omega, by omega, fun H2 r sx dr' h1 h2 => ?_⟩
      refine ⟨zs.map V.int, sx _ _ nTd hT, by rw [List.length_map]; exact small (by omega), zs ++ [r], ?_, dr'.upd nTd nTl, by rw [upd_same, List.map_append]; rfl, by rw [List.length_append, hl]; rfl, fun z hz' => ?_⟩
      · intro b o nb hb
        rw [upd_ne (ne_of_none hb nT)]
        exact sx _ _ nb (sm _ _ nb hb)
      · rcases List.mem_append.mp hz' with z' | z'
        · exact hz z z'
        · rw [List.mem_singleton] at z'
          omega
    · obtain ⟨zs, sm, dr, hT, hl, hz⟩ := hp
      rw [Int.toNat_natCast] at hl
      -- distances = []
      refine ⟨Nat.zero_le _, fun Dl nD => ?_⟩
      obtain ⟨xs1, hx1⟩ := dr.lst
      have nDd : Dl ≠ d := (ne_of_none hx1 nD).symm
      have nDl : Dl ≠ l := (ne_of_none dr.lst' nD).symm
      have nDT : Dl ≠ T := (ne_of_none hT nD).symm
      have nDH : H Dl = none := by
        cases e : H Dl with
        | none => rfl
        | some o => rw [sm _ _ nDd e] at nD; cases nD
      have C0 : Car H d l ns T Dl zs [] [] (upd H1 Dl (.lst [])) := ⟨sm.trans (SameX.of (same_upd nD)), dr.same (same_upd nD), same_upd nD _ _ hT, upd_same, trivial⟩
      generalize (upd H1 Dl (.lst [])) = H2 at *
      -- range(take(d, 9))
      refine ⟨_, rfl, d, l, ns, 9, rfl, C0.dr, by omega, by omega, fun H3 r sx3 dr3 hr0 hr9 => ⟨r, rfl, by omega, by omega, ?_⟩⟩
      have C1 := C0.step nTd nDd sx3 dr3
      refine for_range (lo := 0) (n := r.toNat) (fun k σ H' => ∃ y2 y5 y6 y7 y8, σ = [some (.ref d), some (.int n), y2, some (.ref T), some (.ref Dl), y5, y6, y7, y8] ∧ ∃ us ds, Car H d l ns T Dl zs us ds H' ∧ ds.length = k ∧ DsSo n ds)
        ⟨_, _, _, _, _, rfl, [], [], C1, rfl, (fun e he => nomatch he), (fun e he => nomatch he)⟩ ?_ ?_
      · rintro k σ H' hk ⟨y2, y5, y6, y7, y8, rfl, us, ds, C, hlk, so⟩
        -- i
        refine ⟨_, rfl, _, rfl, d, l, ns, n, rfl, C.dr, by omega, by omega, fun H4 i sx4 dr4 hi0 hi1 => ?_⟩
        replace C := C.step nTd nDd sx4 dr4
        -- j
        refine ⟨_, rfl, _, rfl, d, l, ns, n, rfl, C.dr, by omega, by omega, fun H5 j sx5 dr5 hj0 hj1 => ?_⟩
        replace C := C.step nTd nDd sx5 dr5
        obtain ⟨a, rfl⟩ : ∃ a : Nat, i = a := ⟨i.toNat, by omega⟩
        obtain ⟨b, rfl⟩ : ∃ b : Nat, j = b := ⟨j.toNat, by omega⟩
        have ha : a < zs.length := by omega
        have hb : b < zs.length := by omega
        have hza : (zs.map V.int)[a]? = some (.int zs[a]) := by rw [List.getElem?_map, List.getElem?_eq_getElem ha]; rfl
        have hzb : (zs.map V.int)[b]? = some (.int zs[b]) := by rw [List.getElem?_map, List.getElem?_eq_getElem hb]; rfl
        have ba := hz _ (List.getElem_mem ha)
        have bb := hz _ (List.getElem_mem hb)
        -- wrong
        dsimp only [gName]
        refine cut_seq (fun σ H' => ∃ wr : Int, σ = [some (.ref d), some (.int n), some (.int (0 + (k : Int))), some (.ref T), some (.ref Dl), some (.int a), some (.int b), some (.int wr), y8] ∧ -6 ≤ wr ∧ wr ≤ 6 ∧ Car H d l ns T Dl zs us ds H') (fun σ H6 hp => ?_) (fun rest => ?_)
        · obtain ⟨wr, rfl, hw1, hw2, C⟩ := hp
          -- gap
          refine ⟨_, rfl, _, rfl, T, _, _, _, rfl, rfl, SqL.of C.tr, atI_nat hzb, _, rfl, _, rfl, T, _, _, _, rfl, rfl, SqL.of C.tr, atI_nat hza, _, _, rfl, rfl, _, rfl, _, _, rfl, rfl, ?_⟩
          -- append
          refine ⟨_, rfl, .inl ⟨rfl, _, SqL.of C.dl⟩, _, rfl, _, rfl, _, rfl, _, rfl, d, l, ns, 4, rfl, C.dr, by omega, by omega, fun H7 u sx7 dr7 hu0 hu1 => ?_⟩
          replace C := C.step nTd nDd sx7 dr7
          refine ⟨_, _, rfl, rfl, _, rfl, _, rfl, d, l, ns, 4, rfl, C.dr, by omega, by omega, fun H8 v sx8 dr8 hv0 hv1 => ?_⟩
          replace C := C.step nTd nDd sx8 dr8
          refine ⟨_, _, rfl, rfl, smallE (by show 4 ≤ 10000; decide), fun p np => ?_⟩
          have hul := C.ro.length
          have nPD : p ≠ Dl := (ne_of_none C.dl np).symm
          refine ⟨Dl, _, _, rfl, rfl, same_upd np _ _ C.dl, by rw [List.length_map]; exact small (by omega), ?_⟩
          refine ⟨_, _, _, _, _, rfl, us ++ [p], ds ++ [⟨a, b, zs[b] - zs[a] + wr - u, zs[b] - zs[a] + wr + v⟩], ⟨?_, ?_, ?_, ?_, ?_⟩, by rw [List.length_append, hlk]; rfl, so.snoc (by show a < n; omega) (by show b < n; omega) (by show -1000000 ≤ zs[b] - zs[a] + wr - u; omega) (by show zs[b] - zs[a] + wr + v ≤ 1000000; omega) (by show zs[b] - zs[a] + wr - u ≤ zs[b] - zs[a] + wr + v; omega)⟩
          · intro b' o nb hb'
            rw [upd_ne (ne_of_none hb' nDH)]
            exact same_upd np _ _ (C.sm _ _ nb hb')
          · exact (C.dr.same (same_upd np)).upd nDd nDl
          · rw [upd_ne nDT.symm]
            exact same_upd np _ _ C.tr
          · rw [upd_same, List.map_append]
            rfl
          · refine Rows.snoc ?_ (C.ro.mono fun t e q => ?_)
            · exact (upd_ne nPD).trans upd_same
            · exact (upd_ne (ne_of q C.dl (by intro z; cases z))).trans (same_upd np _ _ q)
        · refine ⟨_, rfl, d, l, ns, 6, rfl, C.dr, by omega, by omega, fun H6 t sx6 dr6 ht0 ht1 => ?_⟩
          replace C := C.step nTd nDd sx6 dr6
          refine ⟨rfl, _, rfl, if2 (fun _ => ?_) (fun _ => ?_)⟩
          · refine ⟨_, rfl, d, l, ns, 6, rfl, C.dr, by omega, by omega, fun H7 wr sx7 dr7 hw1 hw2 => ?_⟩
            exact rest _ _ ⟨wr, rfl, hw1, hw2, C.step nTd nDd sx7 dr7⟩
          · exact rest _ _ ⟨0, rfl, by omega, by omega, C⟩
      · rintro σ H' ⟨y2, y5, y6, y7, y8, rfl, us, ds, C, hlk, so⟩
        refine ⟨_, rfl, Dl, _, rfl, .inl ⟨SqL.of C.dl, fun D nD' => ?_⟩⟩
        refine q _ D ds (C.sm.trans (SameX.of (same_upd nD'))) (C.dr.same (same_upd nD')) ⟨us, upd_same, C.ro.mono fun t e q => same_upd nD' _ _ q⟩ ⟨hn1, by omega, by omega, so.bnd, so.iv⟩
end
end Ts
/-! TsI: law. -/
namespace Ts
open PySem PySem.Spec PyProof.Rows L2 TsM
theorem scLaw : FnScope ["_law_script", "_law_d", "_law_count", "_law_distances_here", "_law_i", "_law_j", "_law_told_here", "_law_low", "_law_high"] ["_law_script"] (defScope sLaw) := ⟨rfl, rfl, rfl, by decide +kernel, rfl, by decide +kernel, by decide +kernel⟩
def spLaw (K : PySem.W.Frag) : Sp := fun vs H Q _ => ∃ (a : Addr) (ns : List Int), vs = [.ref a] ∧ SqL K H a (ns.map V.int) ∧ ∀ H', Q (.bl true) H'
theorem bnot_true {A B : Prop} (h : B) : if (!true) = true then A else B := iteF h
theorem bnot_false {A B : Prop} (h : A) : if (!false) = true then A else B := iteT h
section
variable {P : Program} {w : World} {K : PySem.W.Frag} {mg : Str → Option Value} {base : Heap}
theorem ok_law {f fG fT fD fO fB fI fC : Addr} {fd fdG fdT fdD fdO fdB fdI fdC : FuncData} (F : Fun K "law" "law" sLaw f fd) (ms : mg "isinstance" = none) (mt : mg "tuple" = none) (ml : mg "len" = none)
    (GG : FnOk P w K mg base CX0 1 fG fdG ["_law_script"] (spBegin K)) (gG : mg "_law_begin" = some (.ref fG)) (kG : PySem.W.keepIn K (.ref fG) = true) (bG : Binds K fdG ["_law_script"] [])
    (GT : FnOk P w K mg base CX0 1 fT fdT ["_law_d", "_law_many"] spTake) (gT : mg "_law_take" = some (.ref fT)) (kT : PySem.W.keepIn K (.ref fT) = true) (bT : Binds K fdT ["_law_d", "_law_many"] [])
    (GD : FnOk P w K mg base CX0 3 fD fdD ["_law_d", "_law_count"] spDists) (gD : mg "_law_distances" = some (.ref fD)) (kD : PySem.W.keepIn K (.ref fD) = true) (bD : Binds K fdD ["_law_d", "_law_count"] [])
    (GO : FnOk P w K mg base CX0 4 fO fdO ["_law_count", "_law_distances_here", "_law_i", "_law_j"] spTold) (gO : mg "_law_told" = some (.ref fO)) (kO : PySem.W.keepIn K (.ref fO) = true) (bO : Binds K fdO ["_law_count", "_law_distances_here", "_law_i", "_law_j"] [])
    (GB : FnOk P w K mg base CX0 2 fB fdB ["_law_count", "_law_distances_here"] spBest) (gB : mg "_law_best" = some (.ref fB)) (kB : PySem.W.keepIn K (.ref fB) = true) (bB : Binds K fdB ["_law_count", "_law_distances_here"] [])
    (GI : FnOk P w K mg base CX0 1 fI fdI ["_law_actual"] spInt) (gI : mg "_law_int" = some (.ref fI)) (kI : PySem.W.keepIn K (.ref fI) = true) (bI : Binds K fdI ["_law_actual"] [])
    (GC : FnOk P w K mg base CX0 3 fC fdC ["_law_count", "_law_distances_here", "_law_i", "_law_j", "_law_n"] spCan) (gC : mg "_law_can" = some (.ref fC)) (kC : PySem.W.keepIn K (.ref fC) = true) (bC : Binds K fdC ["_law_count", "_law_distances_here", "_law_i", "_law_j", "_law_n"] []) :
    FnOk P w K mg base CX0 5 f fd ["_law_script"] (spLaw K) := by
  refine F.ok scLaw (fun vs H Q E h => ?_) (fun cdv A outer s H vs Q E hr h => ?_)
  · obtain ⟨a, ns, rfl, _⟩ := h
    rfl
  · obtain ⟨a, ns, rfl, hS, q⟩ := h
    have hr1 : Room 1 _ := hr.mono (by decide)
    have hr2 : Room 2 _ := hr.mono (by decide)
    have hr3 : Room 3 _ := hr.mono (by decide)
    refine ⟨_, pss_cons (ps_set (i := 1) scLaw.nd rfl (.inl rfl) (pe_call GG hr1 (by rfl) gG kG bG .nil pass0 (pa_cons (pv 0) pa_nil)))
      (pss_cons (ps_set (i := 2) scLaw.nd rfl (.inl rfl) (pe_op op_add pe_int (pe_call GT hr1 (by rfl) gT kT bT .nil pass0 (pa_cons (pv 1) (pa_cons pe_int pa_nil)))))
      (pss_cons (ps_set (i := 3) scLaw.nd rfl (.inl rfl) (pe_call GD hr3 (by rfl) gD kD bD .nil pass0 (pa_cons (pv 1) (pa_cons (pv 2) pa_nil))))
      (pss_cons (ps_set (i := 4) scLaw.nd rfl (.inl rfl) (pe_call GT hr1 (by rfl) gT kT bT .nil pass0 (pa_cons (pv 1) (pa_cons (pv 2) pa_nil))))
      (pss_cons (ps_set (i := 5) scLaw.nd rfl (.inl rfl) (pe_call GT hr1 (by rfl) gT kT bT .nil pass0 (pa_cons (pv 1) (pa_cons (pv 2) pa_nil))))
      (pss_cons (ps_set (i := 6) scLaw.nd rfl (.inl rfl) (pe_call GO hr (by rfl) gO kO bO .nil pass0 (pa_cons (pv 2) (pa_cons (pv 3) (pa_cons (pv 4) (pa_cons (pv 5) pa_nil))))))
      (pss_cons (ps_if (PW.pt (pw_or (pt_cmpR op_ne (pe_call GO hr (by rfl) gO kO bO .nil pass0 (pa_cons (pv 2) (pa_cons (pv 3) (pa_cons (pv 2) (pa_cons (pv 5) pa_nil))))) pe_str (nomark _))
          (pw_or1 (pt_cmpR op_ne (pe_call GO hr (by rfl) gO kO bO .nil pass0 (pa_cons (pv 2) (pa_cons (pv 3) (pa_cons (pv 4) (pa_cons (pe_op op_sub pe_int pe_int) pa_nil))))) pe_str (nomark _)))))
        (pss_one (ps_ret pe_bl)) pss_nil)
      (pss_cons (ps_if (pt_cmpR op_isN (pe_call GB hr2 (by rfl) gB kB bB .nil pass0 (pa_cons (pv 2) (pa_cons (pv 3) pa_nil))) pe_non (nomark _)) (pss_one (ps_ret (pe_cmpR op_eq (pv 6) pe_str (nomark _)))) pss_nil)
      (pss_cons (ps_if (PW.pt (pw_or (pt_not (pt_val (pe_callB call_isi (by rfl) ms (by decide +kernel) (pa_cons (pv 6) (pa_cons (pe_bltn (v := .ty "tuple") (u := .type "tuple") (by rfl) mt (by decide +kernel) rfl) pa_nil)))))
          (pw_or1 (pt_cmpR op_ne (pe_callB call_len_seq (by rfl) ml PySem.boot_len (pa_cons (pv 6) pa_nil)) pe_int (nomark _)))))
        (pss_one (ps_ret pe_bl)) pss_nil)
      (pss_cons (ps_asg (pv 6) (pg_tup (by rfl) (pgs_cons (pg_name (i := 7) scLaw.nd rfl (.inl rfl)) (pgs_cons (pg_name (i := 8) scLaw.nd rfl (.inl rfl)) pgs_nil))))
      (pss_cons (ps_if (PW.pt (pw_and (pt_cmpR op_notN (pv 7) pe_non (nomark _)) (pw_and1 (PW.pt (pw_or (pt_not (pt_val (pe_call GI hr1 (by rfl) gI kI bI .nil pass0 (pa_cons (pv 7) pa_nil))))
          (pw_or (pt_not (pt_val (pe_call GC hr3 (by rfl) gC kC bC .nil pass0 (pa_cons (pv 2) (pa_cons (pv 3) (pa_cons (pv 4) (pa_cons (pv 5) (pa_cons (pv 7) pa_nil))))))))
          (pw_or1 (pt_val (pe_call GC hr3 (by rfl) gC kC bC .nil pass0 (pa_cons (pv 2) (pa_cons (pv 3) (pa_cons (pv 4) (pa_cons (pv 5) (pa_cons (pe_op op_sub (pv 7) pe_int) pa_nil))))))))))))))
        (pss_one (ps_ret pe_bl)) pss_nil)
      (pss_cons (ps_if (PW.pt (pw_and (pt_cmpR op_notN (pv 8) pe_non (nomark _)) (pw_and1 (PW.pt (pw_or (pt_not (pt_val (pe_call GI hr1 (by rfl) gI kI bI .nil pass0 (pa_cons (pv 8) pa_nil))))
          (pw_or (pt_not (pt_val (pe_call GC hr3 (by rfl) gC kC bC .nil pass0 (pa_cons (pv 2) (pa_cons (pv 3) (pa_cons (pv 4) (pa_cons (pv 5) (pa_cons (pv 8) pa_nil))))))))
          (pw_or1 (pt_val (pe_call GC hr3 (by rfl) gC kC bC .nil pass0 (pa_cons (pv 2) (pa_cons (pv 3) (pa_cons (pv 4) (pa_cons (pv 5) (pa_cons (pe_op op_add (pv 8) pe_int) pa_nil))))))))))))))
        (pss_one (ps_ret pe_bl)) pss_nil)
      (pss_cons (ps_if (PW.pt (pw_and (pt_cmpR op_isN (pv 7) pe_non (nomark _)) (pw_and1 (pt_not (pt_val (pe_call GC hr3 (by rfl) gC kC bC .nil pass0 (pa_cons (pv 2) (pa_cons (pv 3) (pa_cons (pv 4) (pa_cons (pv 5)
          (pa_cons (pe_op op_add (pe_op op_sub pe_int pe_int) (pe_ifExp (pt_cmpR op_isN (pv 8) pe_non (nomark _)) pe_int (pv 8))) pa_nil)))))))))))
        (pss_one (ps_ret pe_bl)) pss_nil)
      (pss_one (ps_ret (pe_or (pe_cmpR op_notN (pv 8) pe_non (nomark _)) (pe_one (pe_call GC hr3 (by rfl) gC kC bC .nil pass0 (pa_cons (pv 2) (pa_cons (pv 3) (pa_cons (pv 4) (pa_cons (pv 5)
          (pa_cons (pe_op op_add pe_int (pe_ifExp (pt_cmpR op_isN (pv 7) pe_non (nomark _)) pe_int (pv 7))) pa_nil)))))))))))))))))))))), ?_⟩
    -- d = _law_begin(script)
    refine ⟨_, rfl, a, ns, rfl, hS, fun H1 d l ms1 s1 dr1 => ?_⟩
    -- count = 1 + take(d, 6)
    refine ⟨_, rfl, d, l, ms1, 6, rfl, dr1, by omega, by omega, fun H2 c sx2 dr2 hc0 hc1 => ?_⟩
    refine ⟨_, _, rfl, rfl, ?_⟩
    obtain ⟨n, hn⟩ : ∃ n : Nat, 1 + c = n := ⟨(1 + c).toNat, by omega⟩
    dsimp only [gName]
    rw [hn]
    -- the distances
    refine ⟨_, rfl, _, rfl, d, l, ms1, n, rfl, dr2, by omega, by omega, fun H3 D ds sx3 dr3 hD ok => ?_⟩
    have k1 := ok.lo
    -- i, j
    refine ⟨_, rfl, _, rfl, d, l, ms1, n, rfl, dr3, by omega, by omega, fun H4 i sx4 dr4 hi0 hi1 => ?_⟩
    obtain ⟨xs3, hx3⟩ := dr3.lst
    replace hD := hD.sameX sx4 hx3
    refine ⟨_, rfl, _, rfl, d, l, ms1, n, rfl, dr4, by omega, by omega, fun H5 j sx5 dr5 hj0 hj1 => ?_⟩
    obtain ⟨xs4, hx4⟩ := dr4.lst
    replace hD := hD.sameX sx5 hx4
    obtain ⟨i, rfl⟩ : ∃ a : Nat, i = a := ⟨i.toNat, by omega⟩
    obtain ⟨j, rfl⟩ : ∃ b : Nat, j = b := ⟨j.toNat, by omega⟩
    have hi : i < n := by omega
    have hj : j < n := by omega
    have nO : ¬ Out n i j := fun z => by unfold Out at z; omega
    have o1 : Out n n j := .inr (.inl (Int.le_refl _))
    have o2 : Out n i (0 - 1) := .inr (.inr (.inl (by decide)))
    clear sx2 sx3 sx4 sx5 dr1 dr2 dr3 dr4 dr5 hx3 hx4 s1 hS
    -- told
    refine ⟨_, rfl, _, rfl, _, rfl, _, rfl, n, D, ds, i, j, rfl, hD, ok, fun z => absurd z nO, fun _ hf H6 s6 => ?_, fun _ hf H6 r low high s6 T hr6 => ?_⟩
    · -- no positions exist
      refine ⟨_, rfl, _, rfl, _, rfl, _, rfl, n, D, ds, n, j, rfl, hD.same s6, ok, fun _ H7 s7 => ⟨rfl, _, rfl, ?_⟩, fun z => absurd o1 z, fun z => absurd o1 z⟩
      rw [decide_eq_true rfl]
      refine iteF ⟨_, rfl, _, rfl, _, rfl, _, _, rfl, rfl, n, D, ds, i, 0 - 1, rfl, (hD.same s6).same s7, ok, fun _ H8 s8 => ⟨rfl, _, rfl, ?_⟩, fun z => absurd o2 z, fun z => absurd o2 z⟩
      rw [decide_eq_true rfl]
      refine iteF ?_
      refine ⟨_, rfl, _, rfl, n, D, ds, rfl, ((hD.same s6).same s7).same s8, by have := ok.len; omega, ok.hi, ok.bnd, fun z => absurd z hf, fun _ H9 s9 => ⟨rfl, _, rfl, ?_⟩⟩
      rw [decide_eq_true rfl]
      refine iteT ⟨_, rfl, rfl, ?_⟩
      rw [decide_eq_true rfl]
      exact q _
    · -- positions exist
      refine ⟨_, rfl, _, rfl, _, rfl, _, rfl, n, D, ds, n, j, rfl, hD.same s6, ok, fun _ H7 s7 => ⟨rfl, _, rfl, ?_⟩, fun z => absurd o1 z, fun z => absurd o1 z⟩
      rw [decide_eq_true rfl]
      refine iteF ⟨_, rfl, _, rfl, _, rfl, _, _, rfl, rfl, n, D, ds, i, 0 - 1, rfl, (hD.same s6).same s7, ok, fun _ H8 s8 => ⟨rfl, _, rfl, ?_⟩, fun z => absurd o2 z, fun z => absurd o2 z⟩
      rw [decide_eq_true rfl]
      refine iteF ?_
      refine ⟨_, rfl, _, rfl, n, D, ds, rfl, ((hD.same s6).same s7).same s8, by have := ok.len; omega, ok.hi, ok.bnd, fun _ H9 r9 s9 => ⟨rfl, _, rfl, ?_⟩, fun z => absurd hf z⟩
      rw [show decide (V.ref r9 = V.non) = false from decide_eq_false (by intro z; cases z)]
      refine iteF ?_
      have sm : Same H6 H9 := s7.trans (s8.trans s9)
      have hr9 := sm _ _ hr6
      replace hD := (hD.same s6).same sm
      rw [Int.toNat_natCast, Int.toNat_natCast] at T
      clear s6 s7 s8 s9 hr6 sm
      -- a pair
      refine ⟨_, rfl, _, _, .type "tuple", .type "tuple", true, rfl, .ty _, .base (.tup hr9), kit_ty (by decide +kernel), true, rfl, bnot_true ?_⟩
      refine ⟨_, rfl, r, _, rfl, .inr (SqT.of hr9), rfl, _, rfl, ?_⟩
      rw [show (!decide (V.int ([oV low, oV high].length : Nat) = V.int 2)) = false from rfl]
      refine iteF ?_
      -- low, high = told
      refine ⟨_, rfl, r, _, rfl, SqT.of hr9, rfl, _, _, rfl, _, _, rfl, rfl, ?_⟩
      dsimp only [gName]
      -- the low end
      refine cut_seq (fun σ H' => σ = [some (.ref a), some (.ref d), some (.int n), some (.ref D), some (.int i), some (.int j), some (.ref r), some (oV low), some (oV high)] ∧ DsAt H' D ds) (fun σ H10 hp => ?_) (fun rest => ?_)
      · obtain ⟨rfl, hD⟩ := hp
        -- the high end
        refine cut_seq (fun σ H' => σ = [some (.ref a), some (.ref d), some (.int n), some (.ref D), some (.int i), some (.int j), some (.ref r), some (oV low), some (oV high)] ∧ DsAt H' D ds) (fun σ H11 hp => ?_) (fun rest => ?_)
        · obtain ⟨rfl, hD⟩ := hp
          -- no low end
          refine cut_seq (fun σ H' => σ = [some (.ref a), some (.ref d), some (.int n), some (.ref D), some (.int i), some (.int j), some (.ref r), some (oV low), some (oV high)] ∧ DsAt H' D ds) (fun σ H12 hp => ?_) (fun rest => ?_)
          · obtain ⟨rfl, hD⟩ := hp
            -- no high end
            refine ⟨_, rfl, rfl, _, rfl, ?_⟩
            cases high with
            | some h =>
              rw [show oV (some h) = V.int h from rfl, dN]
              exact iteT (q _)
            | none =>
              rw [show (!decide (oV none = V.non)) = false from rfl]
              refine iteF ⟨_, rfl, _, rfl, _, rfl, _, rfl, _, rfl, rfl, _, rfl, ?_⟩
              cases low with
              | none =>
                rw [show decide (oV none = V.non) = true from rfl]
                exact iteT ⟨_, _, rfl, rfl, n, D, ds, i, j, _, rfl, hD, ok, hi, hj, fun _ H' _ => q H', fun z => absurd (T.noHi rfl) z⟩
              | some l =>
                rw [show oV (some l) = V.int l from rfl, dN]
                exact iteF ⟨_, rfl, _, _, rfl, rfl, n, D, ds, i, j, _, rfl, hD, ok, hi, hj, fun _ H' _ => q H', fun z => absurd (T.noHi rfl) z⟩
          · refine ⟨_, rfl, rfl, _, rfl, ?_⟩
            cases low with
            | some l =>
              rw [show oV (some l) = V.int l from rfl, dN]
              exact iteF (iteF (rest _ _ ⟨rfl, hD⟩))
            | none =>
              rw [show decide (oV none = V.non) = true from rfl]
              refine iteT ⟨_, rfl, _, rfl, _, rfl, _, rfl, _, _, rfl, rfl, _, rfl, rfl, _, rfl, ?_⟩
              cases high with
              | none =>
                rw [show decide (oV none = V.non) = true from rfl]
                exact iteT ⟨_, _, rfl, rfl, n, D, ds, i, j, _, rfl, hD, ok, hi, hj, fun _ H' s' => ⟨true, rfl, bnot_true (rest _ _ ⟨rfl, hD.same s'⟩)⟩, fun z => absurd (T.noLo rfl) z⟩
              | some h =>
                rw [show oV (some h) = V.int h from rfl, dN]
                exact iteF ⟨_, rfl, _, _, rfl, rfl, n, D, ds, i, j, _, rfl, hD, ok, hi, hj, fun _ H' s' => ⟨true, rfl, bnot_true (rest _ _ ⟨rfl, hD.same s'⟩)⟩, fun z => absurd (T.noLo rfl) z⟩
        · refine ⟨_, rfl, rfl, _, rfl, ?_⟩
          cases high with
          | none =>
            rw [show (!decide (oV none = V.non)) = false from rfl]
            exact iteF (iteF (rest _ _ ⟨rfl, hD⟩))
          | some h =>
            rw [show oV (some h) = V.int h from rfl, dN]
            have T1 := T.hi h rfl
            refine iteT ⟨_, rfl, h, rfl, true, rfl, bnot_true ?_⟩
            refine ⟨_, rfl, _, rfl, _, rfl, _, rfl, _, rfl, n, D, ds, i, j, h, rfl, hD, ok, hi, hj, fun _ H' s' => ⟨true, rfl, bnot_true ?_⟩, fun z => absurd T1.1 z⟩
            refine ⟨_, rfl, _, rfl, _, rfl, _, rfl, _, rfl, _, _, rfl, rfl, n, D, ds, i, j, h + 1, rfl, hD.same s', ok, hi, hj, fun z => absurd z T1.2, fun _ H'' s'' => ⟨false, rfl, iteF (rest _ _ ⟨rfl, (hD.same s').same s''⟩)⟩⟩
      · refine ⟨_, rfl, rfl, _, rfl, ?_⟩
        cases low with
        | none =>
          rw [show (!decide (oV none = V.non)) = false from rfl]
          exact iteF (iteF (rest _ _ ⟨rfl, hD⟩))
        | some l =>
          rw [show oV (some l) = V.int l from rfl, dN]
          have T1 := T.lo l rfl
          refine iteT ⟨_, rfl, l, rfl, true, rfl, bnot_true ?_⟩
          refine ⟨_, rfl, _, rfl, _, rfl, _, rfl, _, rfl, n, D, ds, i, j, l, rfl, hD, ok, hi, hj, fun _ H' s' => ⟨true, rfl, bnot_true ?_⟩, fun z => absurd T1.1 z⟩
          refine ⟨_, rfl, _, rfl, _, rfl, _, rfl, _, rfl, _, _, rfl, rfl, n, D, ds, i, j, l - 1, rfl, hD.same s', ok, hi, hj, fun z => absurd z T1.2, fun _ H'' s'' => ⟨false, rfl, iteF (rest _ _ ⟨rfl, (hD.same s').same s''⟩)⟩⟩
end
end Ts
/-! TsEnd: what the top has written; the law. -/
namespace Ts
open PySem PySem.Spec PyProof.Rows L2 TsM
theorem all_mk {P : Program} {w : World} {K : PySem.W.Frag} {h : Heap} {mg : Str → Option Value} {fa CS CR CD f1 f2 f3 f4 f5 f6 f7 f8 f9 f10 f11 f12 f13 f14 f15 f16 f17 : Addr} {t1 t2 t3 : Tok} (X : K.In h) (G : h.Ns mainGlobals mg) (hfa : mg "law" = some (.ref fa))
    {od1 an1 : Option Addr} {sl1 : Array (Option Value)} {oc1 kV1 dc1 pm1 cd1 ct1 : Value}
    {od2 an2 : Option Addr} {sl2 : Array (Option Value)} {oc2 kV2 dc2 pm2 cd2 ct2 : Value}
    {od3 an3 : Option Addr} {sl3 : Array (Option Value)} {oc3 kV3 dc3 pm3 cd3 ct3 : Value}
    {od4 an4 : Option Addr} {sl4 : Array (Option Value)} {oc4 kV4 dc4 pm4 cd4 ct4 : Value}
    {od5 an5 : Option Addr} {sl5 : Array (Option Value)} {oc5 kV5 dc5 pm5 cd5 ct5 : Value}
    {od6 an6 : Option Addr} {sl6 : Array (Option Value)} {oc6 kV6 dc6 pm6 cd6 ct6 : Value}
    {od7 an7 : Option Addr} {sl7 : Array (Option Value)} {oc7 kV7 dc7 pm7 cd7 ct7 : Value}
    {od8 an8 : Option Addr} {sl8 : Array (Option Value)} {oc8 kV8 dc8 pm8 cd8 ct8 : Value}
    {od9 an9 : Option Addr} {sl9 : Array (Option Value)} {oc9 kV9 dc9 pm9 cd9 ct9 : Value}
    {od10 an10 : Option Addr} {sl10 : Array (Option Value)} {oc10 kV10 dc10 pm10 cd10 ct10 : Value}
    {od11 an11 : Option Addr} {sl11 : Array (Option Value)} {oc11 kV11 dc11 pm11 cd11 ct11 : Value}
    {od12 an12 : Option Addr} {sl12 : Array (Option Value)} {oc12 kV12 dc12 pm12 cd12 ct12 : Value}
    {od13 an13 : Option Addr} {sl13 : Array (Option Value)} {oc13 kV13 dc13 pm13 cd13 ct13 : Value}
    {od14 an14 : Option Addr} {sl14 : Array (Option Value)} {oc14 kV14 dc14 pm14 cd14 ct14 : Value}
    {od15 an15 : Option Addr} {sl15 : Array (Option Value)} {oc15 kV15 dc15 pm15 cd15 ct15 : Value}
    {od16 an16 : Option Addr} {sl16 : Array (Option Value)} {oc16 kV16 dc16 pm16 cd16 ct16 : Value}
    {od17 an17 : Option Addr} {sl17 : Array (Option Value)} {oc17 kV17 dc17 pm17 cd17 ct17 : Value}
    (a1 : PySem.W.nsIn K mainGlobals "check_distances" = some (some (.ref f1)))
    (l1 : K.lookup f1 = some ⟨oc1, od1, .func (PySem.W.fnOf "check_distances" "check_distances" (defArgs sCheck) (defBody sCheck) (defScope sCheck) .none kV1 dc1 pm1 an1 cd1 ct1), sl1⟩)
    (c1 : PySem.W.codeIn K cd1 "check_distances" = true)
    (k1 : PySem.W.keepIn K (.ref f1) = true)
    (a2 : PySem.W.nsIn K mainGlobals "limits_of" = some (some (.ref f2)))
    (l2 : K.lookup f2 = some ⟨oc2, od2, .func (PySem.W.fnOf "limits_of" "limits_of" (defArgs sLims) (defBody sLims) (defScope sLims) .none kV2 dc2 pm2 an2 cd2 ct2), sl2⟩)
    (c2 : PySem.W.codeIn K cd2 "limits_of" = true)
    (k2 : PySem.W.keepIn K (.ref f2) = true)
    (a3 : PySem.W.nsIn K mainGlobals "relaxed" = some (some (.ref f3)))
    (l3 : K.lookup f3 = some ⟨oc3, od3, .func (PySem.W.fnOf "relaxed" "relaxed" (defArgs sRelax) (defBody sRelax) (defScope sRelax) .none kV3 dc3 pm3 an3 cd3 ct3), sl3⟩)
    (c3 : PySem.W.codeIn K cd3 "relaxed" = true)
    (k3 : PySem.W.keepIn K (.ref f3) = true)
    (a4 : PySem.W.nsIn K mainGlobals "ring_from" = some (some (.ref f4)))
    (l4 : K.lookup f4 = some ⟨oc4, od4, .func (PySem.W.fnOf "ring_from" "ring_from" (defArgs sRing) (defBody sRing) (defScope sRing) .none kV4 dc4 pm4 an4 cd4 ct4), sl4⟩)
    (c4 : PySem.W.codeIn K cd4 "ring_from" = true)
    (k4 : PySem.W.keepIn K (.ref f4) = true)
    (a5 : PySem.W.nsIn K mainGlobals "placed" = some (some (.ref f5)))
    (l5 : K.lookup f5 = some ⟨oc5, od5, .func (PySem.W.fnOf "placed" "placed" (defArgs sPlaced) (defBody sPlaced) (defScope sPlaced) .none kV5 dc5 pm5 an5 cd5 ct5), sl5⟩)
    (c5 : PySem.W.codeIn K cd5 "placed" = true)
    (k5 : PySem.W.keepIn K (.ref f5) = true)
    (a6 : PySem.W.nsIn K mainGlobals "least_sums" = some (some (.ref f6)))
    (l6 : K.lookup f6 = some ⟨oc6, od6, .func (PySem.W.fnOf "least_sums" "least_sums" (defArgs sLeast) (defBody sLeast) (defScope sLeast) .none kV6 dc6 pm6 an6 cd6 ct6), sl6⟩)
    (c6 : PySem.W.codeIn K cd6 "least_sums" = true)
    (k6 : PySem.W.keepIn K (.ref f6) = true)
    (a7 : PySem.W.nsIn K mainGlobals "implied" = some (some (.ref f7)))
    (l7 : K.lookup f7 = some ⟨oc7, od7, .func (PySem.W.fnOf "implied" "implied" (defArgs sImpl) (defBody sImpl) (defScope sImpl) .none kV7 dc7 pm7 an7 cd7 ct7), sl7⟩)
    (c7 : PySem.W.codeIn K cd7 "implied" = true)
    (k7 : PySem.W.keepIn K (.ref f7) = true)
    (a8 : PySem.W.nsIn K mainGlobals "_law_begin" = some (some (.ref f8)))
    (l8 : K.lookup f8 = some ⟨oc8, od8, .func (PySem.W.fnOf "_law_begin" "_law_begin" (defArgs sBegin) (defBody sBegin) (defScope sBegin) .none kV8 dc8 pm8 an8 cd8 ct8), sl8⟩)
    (c8 : PySem.W.codeIn K cd8 "_law_begin" = true)
    (k8 : PySem.W.keepIn K (.ref f8) = true)
    (a9 : PySem.W.nsIn K mainGlobals "_law_take" = some (some (.ref f9)))
    (l9 : K.lookup f9 = some ⟨oc9, od9, .func (PySem.W.fnOf "_law_take" "_law_take" (defArgs sTake) (defBody sTake) (defScope sTake) .none kV9 dc9 pm9 an9 cd9 ct9), sl9⟩)
    (c9 : PySem.W.codeIn K cd9 "_law_take" = true)
    (k9 : PySem.W.keepIn K (.ref f9) = true)
    (a10 : PySem.W.nsIn K mainGlobals "_law_signed" = some (some (.ref f10)))
    (l10 : K.lookup f10 = some ⟨oc10, od10, .func (PySem.W.fnOf "_law_signed" "_law_signed" (defArgs sSigned) (defBody sSigned) (defScope sSigned) .none kV10 dc10 pm10 an10 cd10 ct10), sl10⟩)
    (c10 : PySem.W.codeIn K cd10 "_law_signed" = true)
    (k10 : PySem.W.keepIn K (.ref f10) = true)
    (a11 : PySem.W.nsIn K mainGlobals "_law_int" = some (some (.ref f11)))
    (l11 : K.lookup f11 = some ⟨oc11, od11, .func (PySem.W.fnOf "_law_int" "_law_int" (defArgs sInt) (defBody sInt) (defScope sInt) .none kV11 dc11 pm11 an11 cd11 ct11), sl11⟩)
    (c11 : PySem.W.codeIn K cd11 "_law_int" = true)
    (k11 : PySem.W.keepIn K (.ref f11) = true)
    (a12 : PySem.W.nsIn K mainGlobals "_law_limits" = some (some (.ref f12)))
    (l12 : K.lookup f12 = some ⟨oc12, od12, .func (PySem.W.fnOf "_law_limits" "_law_limits" (defArgs sLLims) (defBody sLLims) (defScope sLLims) .none kV12 dc12 pm12 an12 cd12 ct12), sl12⟩)
    (c12 : PySem.W.codeIn K cd12 "_law_limits" = true)
    (k12 : PySem.W.keepIn K (.ref f12) = true)
    (a13 : PySem.W.nsIn K mainGlobals "_law_best" = some (some (.ref f13)))
    (l13 : K.lookup f13 = some ⟨oc13, od13, .func (PySem.W.fnOf "_law_best" "_law_best" (defArgs sBest) (defBody sBest) (defScope sBest) .none kV13 dc13 pm13 an13 cd13 ct13), sl13⟩)
    (c13 : PySem.W.codeIn K cd13 "_law_best" = true)
    (k13 : PySem.W.keepIn K (.ref f13) = true)
    (a14 : PySem.W.nsIn K mainGlobals "_law_distances" = some (some (.ref f14)))
    (l14 : K.lookup f14 = some ⟨oc14, od14, .func (PySem.W.fnOf "_law_distances" "_law_distances" (defArgs sDists) (defBody sDists) (defScope sDists) .none kV14 dc14 pm14 an14 cd14 ct14), sl14⟩)
    (c14 : PySem.W.codeIn K cd14 "_law_distances" = true)
    (k14 : PySem.W.keepIn K (.ref f14) = true)
    (a15 : PySem.W.nsIn K mainGlobals "_law_told" = some (some (.ref f15)))
    (l15 : K.lookup f15 = some ⟨oc15, od15, .func (PySem.W.fnOf "_law_told" "_law_told" (defArgs sTold) (defBody sTold) (defScope sTold) .none kV15 dc15 pm15 an15 cd15 ct15), sl15⟩)
    (c15 : PySem.W.codeIn K cd15 "_law_told" = true)
    (k15 : PySem.W.keepIn K (.ref f15) = true)
    (a16 : PySem.W.nsIn K mainGlobals "_law_can" = some (some (.ref f16)))
    (l16 : K.lookup f16 = some ⟨oc16, od16, .func (PySem.W.fnOf "_law_can" "_law_can" (defArgs sCan) (defBody sCan) (defScope sCan) .none kV16 dc16 pm16 an16 cd16 ct16), sl16⟩)
    (c16 : PySem.W.codeIn K cd16 "_law_can" = true)
    (k16 : PySem.W.keepIn K (.ref f16) = true)
    (a17 : PySem.W.nsIn K mainGlobals "law" = some (some (.ref f17)))
    (l17 : K.lookup f17 = some ⟨oc17, od17, .func (PySem.W.fnOf "law" "law" (defArgs sLaw) (defBody sLaw) (defScope sLaw) .none kV17 dc17 pm17 an17 cd17 ct17), sl17⟩)
    (c17 : PySem.W.codeIn K cd17 "law" = true)
    (k17 : PySem.W.keepIn K (.ref f17) = true)
    (z_len : PySem.W.nsIn K mainGlobals "len" = some none)
    (z_range : PySem.W.nsIn K mainGlobals "range" = some none)
    (z_tuple : PySem.W.nsIn K mainGlobals "tuple" = some none)
    (z_int : PySem.W.nsIn K mainGlobals "int" = some none)
    (z_list : PySem.W.nsIn K mainGlobals "list" = some none)
    (z_abs : PySem.W.nsIn K mainGlobals "abs" = some none)
    (z_isinstance : PySem.W.nsIn K mainGlobals "isinstance" = some none)
    (z_bool : PySem.W.nsIn K mainGlobals "bool" = some none)
    (z_min : PySem.W.nsIn K mainGlobals "min" = some none)
    (u1 : PySem.W.nsIn K mainGlobals "MARK_LIMIT" = some (some (.int 60 t1)))
    (u2 : PySem.W.nsIn K mainGlobals "DISTANCE_LIMIT" = some (some (.int 400 t2)))
    (u3 : PySem.W.nsIn K mainGlobals "WIDEST" = some (some (.int 1000000 t3)))
    (gS : PySem.W.nsIn K mainGlobals "ShardError" = some (some (.ref CS)))
    (bS : PySem.W.subIn K (.ref CS) (.type "BaseException") = some true)
    (tS : PySem.W.typeIn K (.ref CS) = some (.type "type"))
    (hS : PySem.W.hasDictIn K CS = true)
    (gR : PySem.W.nsIn K mainGlobals "RangeError" = some (some (.ref CR)))
    (bR : PySem.W.subIn K (.ref CR) (.type "BaseException") = some true)
    (tR : PySem.W.typeIn K (.ref CR) = some (.type "type"))
    (hR : PySem.W.hasDictIn K CR = true)
    (gD : PySem.W.nsIn K mainGlobals "DistanceError" = some (some (.ref CD)))
    (bD : PySem.W.subIn K (.ref CD) (.type "BaseException") = some true)
    (tD : PySem.W.typeIn K (.ref CD) = some (.type "type"))
    (hD : PySem.W.hasDictIn K CD = true)
    (xR : PySem.W.excIn K CR [.type "ValueError", .type "Exception", .type "BaseException", .type "object"] "ValueError.__new__" = true)
    (kR : PySem.W.keepIn K (.ref CR) = true)
    (iR : PySem.W.isClsIn K CR = true)
    (sR : PySem.W.subIn K (.ref CR) (.ref CS) = some true)
    (eR1 : PySem.W.findIn K (.ref CR) "__getattribute__" = some (some (.builtin "BaseException.__getattribute__")))
    (eR2 : PySem.W.findIn K (.ref CR) "__getattr__" = some none)
    (eR3 : PySem.W.findIn K (.ref CR) "__class__" = some (some (.builtin "object.__class__")))
    (eR4 : PySem.W.mroIn K CR (.type "object") = some true)
    (xD : PySem.W.excIn K CD [.type "ValueError", .type "Exception", .type "BaseException", .type "object"] "ValueError.__new__" = true)
    (kD : PySem.W.keepIn K (.ref CD) = true)
    (iD : PySem.W.isClsIn K CD = true)
    (sD : PySem.W.subIn K (.ref CD) (.ref CS) = some true)
    (eD1 : PySem.W.findIn K (.ref CD) "__getattribute__" = some (some (.builtin "BaseException.__getattribute__")))
    (eD2 : PySem.W.findIn K (.ref CD) "__getattr__" = some none)
    (eD3 : PySem.W.findIn K (.ref CD) "__class__" = some (some (.builtin "object.__class__")))
    (eD4 : PySem.W.mroIn K CD (.type "object") = some true)
    (n1 : PySem.W.specialIn K (.builtin "object.__class__") "__get__" = some (some (.builtin "getset_descriptor.__get__")))
    (n2 : PySem.W.takesIn K (.builtin "object.__class__") = some true)
    (r1 : PySem.W.subIn K (.ref CR) (.ref CR) = some true)
    (r2 : PySem.W.subIn K (.ref CD) (.ref CR) = some false)
    (r3 : PySem.W.subIn K (.ref CD) (.ref CD) = some true) :
    ∃ fd : FuncData, (∀ (s : Shared) (v : Value), BindsTo s fd ⟨[v], []⟩ [("_law_script", v)]) ∧ ∀ base : Heap, K.In base → base.Ns mainGlobals mg → FnOk P w K mg base CX0 5 fa fd ["_law_script"] (spLaw K) := by
  have e := hfa.symm.trans (PySem.W.mg_of X G a17)
  cases e
  have F1 := fun_mk (st := sCheck) l1 c1 k1
  have b1 := F1.binds (ps := ["count", "distances"]) fun _ _ _ _ _ _ us hl => match us, hl with | [_, _], _ => rfl
  have g1 := PySem.W.mg_of X G a1
  have F2 := fun_mk (st := sLims) l2 c2 k2
  have b2 := F2.binds (ps := ["distances"]) fun _ _ _ _ _ _ us hl => match us, hl with | [_], _ => rfl
  have g2 := PySem.W.mg_of X G a2
  have F3 := fun_mk (st := sRelax) l3 c3 k3
  have b3 := F3.binds (ps := ["limits", "positions", "came"]) fun _ _ _ _ _ _ us hl => match us, hl with | [_, _, _], _ => rfl
  have g3 := PySem.W.mg_of X G a3
  have F4 := fun_mk (st := sRing) l4 c4 k4
  have b4 := F4.binds (ps := ["count", "came", "mark"]) fun _ _ _ _ _ _ us hl => match us, hl with | [_, _, _], _ => rfl
  have g4 := PySem.W.mg_of X G a4
  have F5 := fun_mk (st := sPlaced) l5 c5 k5
  have b5 := F5.binds (ps := ["count", "distances"]) fun _ _ _ _ _ _ us hl => match us, hl with | [_, _], _ => rfl
  have g5 := PySem.W.mg_of X G a5
  have F6 := fun_mk (st := sLeast) l6 c6 k6
  have b6 := F6.binds (ps := ["count", "limits", "start"]) fun _ _ _ _ _ _ us hl => match us, hl with | [_, _, _], _ => rfl
  have g6 := PySem.W.mg_of X G a6
  have F7 := fun_mk (st := sImpl) l7 c7 k7
  have b7 := F7.binds (ps := ["count", "distances", "i", "j"]) fun _ _ _ _ _ _ us hl => match us, hl with | [_, _, _, _], _ => rfl
  have g7 := PySem.W.mg_of X G a7
  have F8 := fun_mk (st := sBegin) l8 c8 k8
  have b8 := F8.binds (ps := ["_law_script"]) fun _ _ _ _ _ _ us hl => match us, hl with | [_], _ => rfl
  have g8 := PySem.W.mg_of X G a8
  have F9 := fun_mk (st := sTake) l9 c9 k9
  have b9 := F9.binds (ps := ["_law_d", "_law_many"]) fun _ _ _ _ _ _ us hl => match us, hl with | [_, _], _ => rfl
  have g9 := PySem.W.mg_of X G a9
  have F10 := fun_mk (st := sSigned) l10 c10 k10
  have b10 := F10.binds (ps := ["_law_d", "_law_most"]) fun _ _ _ _ _ _ us hl => match us, hl with | [_, _], _ => rfl
  have g10 := PySem.W.mg_of X G a10
  have F11 := fun_mk (st := sInt) l11 c11 k11
  have b11 := F11.binds (ps := ["_law_actual"]) fun _ _ _ _ _ _ us hl => match us, hl with | [_], _ => rfl
  have g11 := PySem.W.mg_of X G a11
  have F12 := fun_mk (st := sLLims) l12 c12 k12
  have b12 := F12.binds (ps := ["_law_distances_here"]) fun _ _ _ _ _ _ us hl => match us, hl with | [_], _ => rfl
  have g12 := PySem.W.mg_of X G a12
  have F13 := fun_mk (st := sBest) l13 c13 k13
  have b13 := F13.binds (ps := ["_law_count", "_law_distances_here"]) fun _ _ _ _ _ _ us hl => match us, hl with | [_, _], _ => rfl
  have g13 := PySem.W.mg_of X G a13
  have F14 := fun_mk (st := sDists) l14 c14 k14
  have b14 := F14.binds (ps := ["_law_d", "_law_count"]) fun _ _ _ _ _ _ us hl => match us, hl with | [_, _], _ => rfl
  have g14 := PySem.W.mg_of X G a14
  have F15 := fun_mk (st := sTold) l15 c15 k15
  have b15 := F15.binds (ps := ["_law_count", "_law_distances_here", "_law_i", "_law_j"]) fun _ _ _ _ _ _ us hl => match us, hl with | [_, _, _, _], _ => rfl
  have g15 := PySem.W.mg_of X G a15
  have F16 := fun_mk (st := sCan) l16 c16 k16
  have b16 := F16.binds (ps := ["_law_count", "_law_distances_here", "_law_i", "_law_j", "_law_n"]) fun _ _ _ _ _ _ us hl => match us, hl with | [_, _, _, _, _], _ => rfl
  have g16 := PySem.W.mg_of X G a16
  have F17 := fun_mk (st := sLaw) l17 c17 k17
  have m_len := PySem.W.mg_none_of X G z_len
  have m_range := PySem.W.mg_none_of X G z_range
  have m_tuple := PySem.W.mg_none_of X G z_tuple
  have m_int := PySem.W.mg_none_of X G z_int
  have m_list := PySem.W.mg_none_of X G z_list
  have m_abs := PySem.W.mg_none_of X G z_abs
  have m_isinstance := PySem.W.mg_none_of X G z_isinstance
  have m_bool := PySem.W.mg_none_of X G z_bool
  have m_min := PySem.W.mg_none_of X G z_min
  have mS := PySem.W.mg_of X G gS
  have mR := PySem.W.mg_of X G gR
  have mD := PySem.W.mg_of X G gD
  have neq : CD ≠ CR := fun z => by
    rw [z, r1] at r2
    cases r2
  have XR : ExT K mg "RangeError" CR := ⟨mR, xR, kR, bR, tR⟩
  have XD : ExT K mg "DistanceError" CD := ⟨mD, xD, kD, bD, tD⟩
  have ER : ExcC K CR := ⟨eR1, eR2, bR, hR, eR3, n1, n2, eR4⟩
  have ED : ExcC K CD := ⟨eD1, eD2, bD, hD, eD3, n1, n2, eD4⟩
  have xSR := PySem.W.exm_ref bS hS tS sR
  have xSD := PySem.W.exm_ref bS hS tS sD
  have kRR := kit_own iR tR r1 (.inl rfl)
  have kDR := kit_own iR tR r2 (.inr fun z => neq (Value.ref.inj z))
  have kDD := kit_own iD tD r3 (.inl rfl)
  refine ⟨PySem.W.fnOf "law" "law" (defArgs sLaw) (defBody sLaw) (defScope sLaw) .none kV17 dc17 pm17 an17 cd17 ct17, fun s v => .of_eq rfl, fun base _ _ => ?_⟩
  have G1 : FnOk P w K mg base CX0 1 f1 _ _ spCheck := ok_check F1 m_len (PySem.W.mg_of X G u1) (PySem.W.mg_of X G u2) (PySem.W.mg_of X G u3)
  have G2 : FnOk P w K mg base CX0 1 f2 _ _ spLims := ok_lims F2 m_len m_range
  have G3 : FnOk P w K mg base CX0 1 f3 _ _ spRelax := ok_relax F3
  have G4 : FnOk P w K mg base CX0 1 f4 _ _ spRing := ok_ring F4 m_range m_len m_tuple
  have G5 : FnOk P w K mg base CX0 2 f5 _ _ spPlaced := ok_placed F5 m_range m_tuple G1 g1 k1 b1 G2 g2 k2 b2 G3 g3 k3 b3 G4 g4 k4 b4
  have G6 : FnOk P w K mg base CX0 1 f6 _ _ spLeast := ok_least F6 m_range
  have G7 : FnOk P w K mg base (L2.CX P w) 3 f7 _ _ (spImpl CR CD) := ok_impl F7 XR XD G1 g1 k1 b1 G2 g2 k2 b2 G5 g5 k5 b5 G6 g6 k6 b6
  have G8 : FnOk P w K mg base CX0 1 f8 _ _ (spBegin K) := ok_begin F8 m_int m_list
  have G9 : FnOk P w K mg base CX0 1 f9 _ _ spTake := ok_take F9 m_len m_abs m_int
  have G10 : FnOk P w K mg base CX0 2 f10 _ _ spSigned := ok_signed F10 G9 g9 k9 b9
  have G11 : FnOk P w K mg base CX0 1 f11 _ _ spInt := ok_int F11 m_isinstance m_int m_bool
  have G12 : FnOk P w K mg base CX0 1 f12 _ _ spLLims := ok_llims F12 m_len m_range
  have G13 : FnOk P w K mg base CX0 2 f13 _ _ spBest := ok_best F13 m_range m_min m_tuple G12 g12 k12 b12
  have G14 : FnOk P w K mg base CX0 3 f14 _ _ spDists := ok_dists F14 m_range m_tuple G9 g9 k9 b9 G10 g10 k10 b10
  have G15 : FnOk P w K mg base CX0 4 f15 _ _ spTold := ok_told F15 m_isinstance mS mR mD xSR xSD ER ED kRR kDR kDD neq G7 g7 k7 b7
  have G16 : FnOk P w K mg base CX0 3 f16 _ _ spCan := ok_can F16 G13 g13 k13 b13
  exact ok_law F17 m_isinstance m_tuple m_len G8 g8 k8 b8 G9 g9 k9 b9 G14 g14 k14 b14 G15 g15 k15 b15 G13 g13 k13 b13 G11 g11 k11 b11 G16 g16 k16 b16
end Ts
open PySem PySem.W PyProof.Rows
set_option maxHeartbeats 0 in
theorem PySem.Challenge.cw_textshards_k35_whole_implied_distances_a_holds : PySem.Challenge.rw_textshards_k35_whole_implied_distances_a.Holds := by
  w_on; o_law; k_head; (case hw => w_witness2)
  k_fill
  refine L2.walk_of (l := PySem.Challenge.rw_textshards_k35_whole_implied_distances_a) (n := 63) (k := 5) (x := "_law_script") (CX := fun _ => L2.CX0) (sp := fun w => Ts.spLaw _) rfl (by decide) rfl ⟨rfl, by decide, by decide⟩ (fun w h Y => PySem.W.kIn_of Y) ?F (fun _ _ a ns _ _ hS => ⟨a, ns, rfl, hS, fun _ => rfl⟩) (fun _ _ _ _ _ h => h)
  case F =>
    intro w mg fa h KX G hmg
    refine' Ts.all_mk KX G hmg ?a1 ?l1 ?c1 ?k1 ?a2 ?l2 ?c2 ?k2 ?a3 ?l3 ?c3 ?k3 ?a4 ?l4 ?c4 ?k4 ?a5 ?l5 ?c5 ?k5 ?a6 ?l6 ?c6 ?k6 ?a7 ?l7 ?c7 ?k7 ?a8 ?l8 ?c8 ?k8 ?a9 ?l9 ?c9 ?k9 ?a10 ?l10 ?c10 ?k10 ?a11 ?l11 ?c11 ?k11 ?a12 ?l12 ?c12 ?k12 ?a13 ?l13 ?c13 ?k13 ?a14 ?l14 ?c14 ?k14 ?a15 ?l15 ?c15 ?k15 ?a16 ?l16 ?c16 ?k16 ?a17 ?l17 ?c17 ?k17 ?z_len ?z_range ?z_tuple ?z_int ?z_list ?z_abs ?z_isinstance ?z_bool ?z_min ?u1 ?u2 ?u3 ?gS ?bS ?tS ?hS ?gR ?bR ?tR ?hR ?gD ?bD ?tD ?hD ?xR ?kR ?iR ?sR ?eR1 ?eR2 ?eR3 ?eR4 ?xD ?kD ?iD ?sD ?eD1 ?eD2 ?eD3 ?eD4 ?n1 ?n2 ?r1 ?r2 ?r3
    (case a1 => k_is); (case l1 => k_is); (case c1 => k_is); (case k1 => k_is); (case a2 => k_is); (case l2 => k_is)
    (case c2 => k_is); (case k2 => k_is); (case a3 => k_is); (case l3 => k_is); (case c3 => k_is); (case k3 => k_is)
    (case a4 => k_is); (case l4 => k_is); (case c4 => k_is); (case k4 => k_is); (case a5 => k_is); (case l5 => k_is)
    (case c5 => k_is); (case k5 => k_is); (case a6 => k_is); (case l6 => k_is); (case c6 => k_is); (case k6 => k_is)
    (case a7 => k_is); (case l7 => k_is); (case c7 => k_is); (case k7 => k_is); (case a8 => k_is); (case l8 => k_is)
    (case c8 => k_is); (case k8 => k_is); (case a9 => k_is); (case l9 => k_is); (case c9 => k_is); (case k9 => k_is)
    (case a10 => k_is); (case l10 => k_is); (case c10 => k_is); (case k10 => k_is); (case a11 => k_is); (case l11 => k_is)
    (case c11 => k_is); (case k11 => k_is); (case a12 => k_is); (case l12 => k_is); (case c12 => k_is); (case k12 => k_is)
    (case a13 => k_is); (case l13 => k_is); (case c13 => k_is); (case k13 => k_is); (case a14 => k_is); (case l14 => k_is)
    (case c14 => k_is); (case k14 => k_is); (case a15 => k_is); (case l15 => k_is); (case c15 => k_is); (case k15 => k_is)
    (case a16 => k_is); (case l16 => k_is); (case c16 => k_is); (case k16 => k_is); (case a17 => k_is); (case l17 => k_is)
    (case c17 => k_is); (case k17 => k_is); (case z_len => k_is); (case z_range => k_is); (case z_tuple => k_is); (case z_int => k_is)
    (case z_list => k_is); (case z_abs => k_is); (case z_isinstance => k_is); (case z_bool => k_is); (case z_min => k_is); (case u1 => k_is)
    (case u2 => k_is); (case u3 => k_is); (case gS => k_is); (case bS => k_is); (case tS => k_is); (case hS => k_is)
    (case gR => k_is); (case bR => k_is); (case tR => k_is); (case hR => k_is); (case gD => k_is); (case bD => k_is)
    (case tD => k_is); (case hD => k_is); (case xR => k_exc); (case kR => k_is); (case iR => k_is); (case sR => k_is)
    (case eR1 => k_is); (case eR2 => k_is); (case eR3 => k_is); (case eR4 => k_is); (case xD => k_exc); (case kD => k_is)
    (case iD => k_is); (case sD => k_is); (case eD1 => k_is); (case eD2 => k_is); (case eD3 => k_is); (case eD4 => k_is)
    (case n1 => k_is); (case n2 => k_is); (case r1 => first | rfl | k_is); (case r2 => first | rfl | k_is); (case r3 => first | rfl | k_is)
