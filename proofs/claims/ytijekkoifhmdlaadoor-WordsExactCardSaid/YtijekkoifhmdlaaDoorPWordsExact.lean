import Derived.Test.YtijekkoifhmdlaaDoorPRefWord
import Derived.Test.YtijekkoifhmdlaaDoorF3
/- The one plain statement of WordsExact. -/
namespace Go.Proofs.YtijekkoifhmdlaaDoor.X
open Go.RowKit Go.Proofs.YtijekkoifhmdlaaDoorW.PrintWords Go.Proofs.YtijekkoifhmdlaaDoorW.PrintLast Go.Proofs.YtijekkoifhmdlaaDoorW.PrintMore
set_option linter.unusedVariables false
set_option linter.unusedSimpArgs false
theorem tell_eq (kind : Int) (hk : 1 ≤ kind ∧ kind ≤ 4) (s : ByteArray) (hs : s.size ≤ 4611686018427387904) (k : Nat) (h : s.size + 200 < k) :
    solsticelaw06_tell.f k kind s = some (ans (if kind = 3 then 0 else 1) (fw ((WS kind).map low) (leastOf kind) (low s))) := by
  have hc : kind = 1 ∨ kind = 2 ∨ kind = 3 ∨ kind = 4 := by omega
  rcases hc with rfl | rfl | rfl | rfl
  · unfold solsticelaw06_tell.f words_Line.f
    rw [if_pos rfl, find1 s hs k h]; rfl
  · unfold solsticelaw06_tell.f words_Month.f
    rw [if_neg (by decide), if_pos rfl, find2 s hs k h]; rfl
  · unfold solsticelaw06_tell.f words_Weekday.f
    rw [if_neg (by decide), if_neg (by decide), if_pos rfl, find3 s hs k h]; rfl
  · unfold solsticelaw06_tell.f words_Year.f
    rw [if_neg (by decide), if_neg (by decide), if_neg (by decide), find4 s hs k h]; rfl
theorem wakes06 (k : Nat) (h : 60 ≤ k) : solsticelaw06_wakes.f k = some true := at_rounds (g := solsticelaw06_wakes.f) (solsticelaw06_wakes.mono) h (by kernel_rfl)
theorem fw_small (Ws : List (List Int)) (least : Int) (L : List Int) (i : Nat) (h : fw Ws least L = some i) : i < Ws.length := by
  unfold fw at h
  split at h
  · cases h
  · split at h
    · rename_i j e
      cases h
      have : i ∈ (List.range Ws.length).filter fun i => L.isPrefixOf (Ws.getD i []) := by rw [e]; exact List.mem_cons_self
      exact List.mem_range.mp (List.mem_filter.mp this).1
    · cases h
theorem WS_length (kind : Int) : (WS kind).length ≤ 12 := by
  unfold WS
  repeat' split
  all_goals decide
theorem step_val (R : Option Bool) (kind : Int) : ∀ (o : Option Nat), (∀ i, o = some i → i < 12) →
    (if rans o < 0 then (if (ans (if kind = 3 then 0 else 1) o).2 = 7 then (if (ans (if kind = 3 then 0 else 1) o).1 = 0 then (if rans o ≥ 0 then (if (ans (if kind = 3 then 0 else 1) o).2 = 0 then ((solsticelaw06_first.f kind).bind fun t182 => (if (ans (if kind = 3 then 0 else 1) o).1 = (wrap64 (rans o + t182)) then R else (some false))) else (some false)) else R) else (some false)) else (some false)) else (if rans o ≥ 0 then (if (ans (if kind = 3 then 0 else 1) o).2 = 0 then ((solsticelaw06_first.f kind).bind fun t183 => (if (ans (if kind = 3 then 0 else 1) o).1 = (wrap64 (rans o + t183)) then R else (some false))) else (some false)) else R)) = R
  | none, _ => rfl
  | some i, h => by
    have hi := h i rfl
    have e1 : rans (some i) = (i : Int) := rfl
    have e2 : (ans (if kind = 3 then 0 else 1) (some i)).2 = 0 := rfl
    have e3 : (ans (if kind = 3 then 0 else 1) (some i)).1 = (if kind = 3 then 0 else 1) + (i : Int) := rfl
    rw [e1, e2, e3, if_neg (show ¬ (i : Int) < 0 by omega), if_pos (show (i : Int) ≥ 0 by omega), if_pos (show (0 : Int) = 0 from rfl)]
    by_cases h3 : kind = 3
    · have e4 : solsticelaw06_first.f kind = some 0 := by unfold solsticelaw06_first.f; rw [if_pos h3]
      rw [e4, Option.bind_some, wrap_id (by omega) (by omega), if_pos h3, if_pos (by omega)]
    · have e4 : solsticelaw06_first.f kind = some 1 := by unfold solsticelaw06_first.f; rw [if_neg h3]
      rw [e4, Option.bind_some, wrap_id (by omega) (by omega), if_neg h3, if_pos (by omega)]
theorem loop_step (s : ByteArray) (hs : s.size ≤ 60) (a1 a2 : Int) (kind : Int) (hk : 1 ≤ kind ∧ kind ≤ 4) (k : Nat) (h : s.size + 200 < k) :
    solsticelaw06_WordsExact.l0 (k + 1) s a1 a2 kind = solsticelaw06_WordsExact.l0 k s a1 a2 (kind + 1) := by
  conv => lhs; rw [solsticelaw06_WordsExact.l0]
  rw [if_pos (by omega), tell_eq kind hk s (by omega) k h]
  simp only [Option.bind_some]
  rw [word_of kind hk s (by omega) k h]
  simp only [Option.bind_some]
  rw [wrap_id (x := kind + 1) (by omega) (by omega)]
  generalize hfw : fw ((WS kind).map low) (leastOf kind) (low s) = o
  have hl := WS_length kind
  have hi : ∀ i, o = some i → i < 12 := fun i e => by
    subst e
    have := fw_small _ _ _ _ hfw
    rw [List.length_map] at this
    omega
  clear hfw hl
  exact step_val (solsticelaw06_WordsExact.l0 k s a1 a2 (kind + 1)) kind o hi
theorem rd_mem (ws : List ByteArray) (i : Int) (h0 : 0 ≤ i) (h1 : i < ws.length) : ∃ j : Nat, i = j ∧ j < ws.length := ⟨i.toNat, by omega, by omega⟩
theorem name_none (kind i : Int) (h : ¬ (1 ≤ kind ∧ kind ≤ 4)) : words_Name.f kind i = some (⟨#[]⟩, 1) ∧ solsticeref01_Words.f kind = some [] := by
  unfold words_Name.f words_kindOf.f solsticeref01_Words.f
  rw [if_neg (by omega), if_neg (by omega), if_neg (by omega), if_neg (by omega), if_neg (by omega), if_neg (by omega), if_neg (by omega), if_neg (by omega)]
  exact ⟨rfl, rfl⟩
theorem name_of (kind : Int) (ws : List ByteArray) (first least : Int) (hk : words_kindOf.f kind = some (ws, first, least, true)) (hl : ws.length ≤ 12) (hf : first = 0 ∨ first = 1) (i : Int) (hi : -9223372036854775808 ≤ i ∧ i < 9223372036854775808) :
    (i < first ∨ first + ws.length ≤ i → words_Name.f kind i = some (⟨#[]⟩, 1)) ∧ (first ≤ i → i < first + ws.length → words_Name.f kind i = some (rdOf ByteArray.empty ws (i - first), 0)) := by
  unfold words_Name.f
  rw [hk]
  simp only [Option.bind_some, if_true]
  constructor
  · intro h
    by_cases h1 : i < first
    · rw [if_pos h1]
    · rw [if_neg h1, wrap_id (x := first + ws.length) (by omega) (by omega), if_pos (by omega)]
  · intro h1 h2
    rw [if_neg (by omega), wrap_id (x := first + ws.length) (by omega) (by omega), if_neg (by omega), wrap_id (x := i - first) (by omega) (by omega), if_pos (by omega), if_pos (by omega)]
theorem loop_end (s : ByteArray) (kind i : Int) (hi : -9223372036854775808 ≤ i ∧ i < 9223372036854775808) (k : Nat) (h : 100 ≤ k) : solsticelaw06_WordsExact.l0 (k + 1) s kind i 5 = some true := by
  obtain ⟨k, rfl⟩ : ∃ m, k = m + 1 := ⟨k - 1, by omega⟩
  have wk := wakes06 k (by omega)
  have bad : ∀ x13 x14, solsticelaw06_WordsExact.j1 (k + 1) ⟨#[]⟩ 1 x13 x14 true = some true := by
    intro x13 x14
    rw [solsticelaw06_WordsExact.j1]
    rw [if_pos rfl, if_pos rfl, if_pos (show (⟨#[]⟩ : ByteArray).toList = ([] : List UInt8) by kernel_rfl), wk]
    rfl
  by_cases hk : 1 ≤ kind ∧ kind ≤ 4
  · have go : ∀ (ws : List ByteArray) (first least : Int), words_kindOf.f kind = some (ws, first, least, true) → solsticeref01_Words.f kind = some ws → solsticelaw06_first.f kind = some first → ws.length ≤ 12 → 0 < ws.length → (first = 0 ∨ first = 1) →
        solsticelaw06_WordsExact.l0 (k + 1 + 1) s kind i 5 = some true := by
      intro ws first least h1 h2 h3 h4 h5 h6
      obtain ⟨n1, n2⟩ := name_of kind ws first least h1 h4 h6 i hi
      rw [solsticelaw06_WordsExact.l0]
      rw [if_neg (by omega)]
      by_cases hlo : i < first
      · rw [n1 (.inl hlo), h2, h3]
        simp only [Option.bind_some]
        rw [if_neg (by omega), if_pos hlo]
        exact bad _ _
      · by_cases hhi : first + ws.length ≤ i
        · rw [n1 (.inr hhi), h2, h3]
          simp only [Option.bind_some]
          rw [if_neg (by omega), if_neg hlo, wrap_id (x := i - first) (by omega) (by omega), if_pos (by omega)]
          exact bad _ _
        · rw [n2 (by omega) (by omega), h2, h3]
          simp only [Option.bind_some]
          rw [if_neg (by omega), if_neg hlo, wrap_id (x := i - first) (by omega) (by omega), if_neg (by omega)]
          have e100 : decide (i > 100) = false := decide_eq_false (by omega)
          rw [solsticelaw06_WordsExact.j1]
          rw [e100, if_neg (by decide), if_pos rfl, if_pos (by omega), if_pos (by omega), if_pos rfl, wk]
          rfl
    have hc : kind = 1 ∨ kind = 2 ∨ kind = 3 ∨ kind = 4 := by omega
    rcases hc with rfl | rfl | rfl | rfl
    · exact go W1 1 1 kind1 (by kernel_rfl) rfl (by decide) (by decide) (by decide)
    · exact go W2 1 3 kind2 (by kernel_rfl) rfl (by decide) (by decide) (by decide)
    · exact go W3 0 3 kind3 (by kernel_rfl) rfl (by decide) (by decide) (by decide)
    · exact go W4 1 1 kind4 (by kernel_rfl) rfl (by decide) (by decide) (by decide)
  · obtain ⟨h1, h2⟩ := name_none kind i hk
    rw [solsticelaw06_WordsExact.l0]
    rw [if_neg (by omega), h1, h2]
    have h3 : ∃ f, solsticelaw06_first.f kind = some f := by unfold solsticelaw06_first.f; split <;> exact ⟨_, rfl⟩
    obtain ⟨f, h3⟩ := h3
    rw [h3]
    simp only [Option.bind_some, List.length_nil]
    rw [if_pos (by rfl)]
    exact bad _ _
/-- WordsExact answers true. -/
theorem pure_WordsExact (s : ByteArray) (kind i : Int) (hi : -9223372036854775808 ≤ i ∧ i < 9223372036854775808) : ∃ k, solsticelaw06_WordsExact.f k s kind i = some true := by
  refine ⟨405, ?_⟩
  unfold solsticelaw06_WordsExact.f
  by_cases h : (s.size : Int) > 60
  · rw [if_pos h]
  · rw [if_neg h, loop_step s (by omega) _ _ 1 (by decide) 404 (by omega), loop_step s (by omega) _ _ (1 + 1) (by decide) 403 (by omega), loop_step s (by omega) _ _ (1 + 1 + 1) (by decide) 402 (by omega), loop_step s (by omega) _ _ (1 + 1 + 1 + 1) (by decide) 401 (by omega)]
    exact loop_end s kind i hi 400 (by decide)
end Go.Proofs.YtijekkoifhmdlaaDoor.X
