import Derived.Test.YtijekkoifhmdlaaDoorPWords
import Derived.Test.YtijekkoifhmdlaaDoorF6
/- The page's own answer which word a text is comes to the same. -/
namespace Go.Proofs.YtijekkoifhmdlaaDoor.X
open Go.RowKit Go.Proofs.YtijekkoifhmdlaaDoorW.PrintWords Go.Proofs.YtijekkoifhmdlaaDoorW.PrintLast Go.Proofs.YtijekkoifhmdlaaDoorW.PrintMore
set_option linter.unusedVariables false
set_option linter.unusedSimpArgs false
theorem rsmall_eq (c : Int) (h0 : 0 ≤ c) (h1 : c ≤ 255) : solsticeref01_small.f c = some (smI c) := by
  unfold solsticeref01_small.f smI
  by_cases h : c ≥ 65
  · rw [if_pos h]
    by_cases h' : c ≤ 90
    · rw [if_pos h', if_pos ⟨h, h'⟩]; congr 1; omega
    · rw [if_neg h', if_neg (by omega)]
  · rw [if_neg h, if_neg (by omega)]
theorem rbegins_l0 (s w : ByteArray) (hw : s.size ≤ w.size) (hs : s.size ≤ 4611686018427387904) (d : Nat) : ∀ (i k : Nat), i ≤ s.size → d = s.size - i → d < k →
    solsticeref01_Begins.l0 k s w (i : Int) = some (((low s).drop i).isPrefixOf ((low w).drop i)) := by
  induction d with
  | zero =>
    intro i k hi hd hk
    obtain ⟨k, rfl⟩ : ∃ m, k = m + 1 := ⟨k - 1, by omega⟩
    simp only [solsticeref01_Begins.l0]
    rw [if_neg (by omega), List.drop_eq_nil_of_le (by rw [low_length]; omega)]
    simp
  | succ d ih =>
    intro i k hi hd hk
    obtain ⟨k, rfl⟩ : ∃ m, k = m + 1 := ⟨k - 1, by omega⟩
    have hlt : i < s.size := by omega
    have b1 := bt_range s i
    have b2 := bt_range w i
    simp only [solsticeref01_Begins.l0]
    rw [if_pos (by omega), if_pos (by omega), rsmall_eq _ b1.1 b1.2]
    simp only [Option.bind_some]
    rw [if_pos (by omega), rsmall_eq _ b2.1 b2.2]
    simp only [Option.bind_some]
    rw [low_get s i hlt, low_get w i (by omega), List.isPrefixOf_cons_cons]
    by_cases e : smI (bt s i) = smI (bt w i)
    · rw [if_pos e, wrap_id (by omega) (by omega)]
      have := ih (i + 1) k (by omega) (by omega) (by omega)
      rw [show ((i : Int) + 1) = ((i + 1 : Nat) : Int) from by omega, this, e]
      simp
    · rw [if_neg e]
      simp [e]
theorem rbegins_eq (s w : ByteArray) (hs : s.size ≤ 4611686018427387904) (k : Nat) (hk : s.size < k) : solsticeref01_Begins.f k s w = some (begB w s) := by
  unfold solsticeref01_Begins.f begB
  by_cases h : (s.size : Int) > (w.size : Int)
  · rw [if_pos h]
    congr 1
    symm
    rw [Bool.eq_false_iff]
    intro h'
    have := (List.isPrefixOf_iff_prefix.mp h').length_le
    rw [low_length, low_length] at this
    omega
  · rw [if_neg h]
    have := rbegins_l0 s w (by omega) hs s.size 0 k (by omega) (by omega) hk
    simpa using this
def goR (L : List Int) (least : Int) : List (List Int) → Int → Int → Int
  | [], _, p => if (L.length : Int) < least then -1 else p
  | W :: Ws, i, p => if L.isPrefixOf W then (if L.length = W.length then i else (if p ≥ 0 then -1 else (if (L.length : Int) < least then -1 else goR L least Ws (i + 1) i))) else goR L least Ws (i + 1) p
theorem word_l0 (s : ByteArray) (hs : s.size ≤ 4611686018427387904) (ws : List ByteArray) (hws : ws.length ≤ 100) (least : Int) (rest : List ByteArray) :
    ∀ (i k : Nat) (p : Int), rest = ws.drop i → i + rest.length = ws.length → rest.length + s.size + 1 < k →
    solsticeref01_Word.l0 k s least ws p (i : Int) = some (goR (low s) least (rest.map low) i p) := by
  induction rest with
  | nil =>
    intro i k p hr hi hk
    obtain ⟨k, rfl⟩ : ∃ m, k = m + 1 := ⟨k - 1, by omega⟩
    simp only [List.length_nil] at hi
    simp only [solsticeref01_Word.l0, List.map_nil, goR, low_length]
    rw [if_neg (by omega)]
    by_cases h2 : (s.size : Int) < least
    · rw [if_pos h2, if_pos h2]
    · rw [if_neg h2, if_neg h2]
  | cons w rest ih =>
    intro i k p hr hi hk
    obtain ⟨k, rfl⟩ : ∃ m, k = m + 1 := ⟨k - 1, by omega⟩
    simp only [List.length_cons] at hi hk
    have hlt : i < ws.length := by omega
    have hw : ws[i] = w ∧ rest = ws.drop (i + 1) := by
      rw [List.drop_eq_getElem_cons hlt] at hr
      injection hr with a b
      exact ⟨a.symm, b⟩
    have hrd : rdOf ByteArray.empty ws (i : Int) = w := by
      unfold rdOf
      rw [Int.toNat_natCast, List.getD_eq_getElem?_getD, List.getElem?_eq_getElem hlt, hw.1]
      rfl
    simp only [solsticeref01_Word.l0]
    rw [if_pos (by omega), if_pos (by omega), hrd, rbegins_eq s w hs k (by omega)]
    simp only [Option.bind_some, List.map_cons, goR, low_length]
    rw [wrap_id (x := (i : Int) + 1) (by omega) (by omega), show ((i : Int) + 1) = ((i + 1 : Nat) : Int) from by omega]
    cases hb : begB w s with
    | true =>
      rw [if_pos rfl]
      unfold begB at hb
      rw [hb, if_pos rfl]
      by_cases he : (s.size : Int) = (w.size : Int)
      · rw [if_pos he, if_pos (show s.size = w.size by omega)]
      · rw [if_neg he, if_neg (show ¬ s.size = w.size by omega)]
        by_cases hp : p ≥ 0
        · rw [if_pos hp, if_pos hp]
        · rw [if_neg hp, if_neg hp]
          by_cases h2 : (s.size : Int) < least
          · rw [if_pos h2, if_pos h2]
          · rw [if_neg h2, if_neg h2]
            exact ih (i + 1) k i hw.2 (by omega) (by omega)
    | false =>
      rw [if_neg (by decide)]
      unfold begB at hb
      rw [hb, if_neg (by decide)]
      exact ih (i + 1) k p hw.2 (by omega) (by omega)
def rans : Option Nat → Int
  | some i => i
  | none => -1
theorem goR_none (L : List Int) (least : Int) : ∀ (Ws : List (List Int)) (i p : Int), (∀ W ∈ Ws, L.isPrefixOf W = false) → p = -1 → goR L least Ws i p = -1
  | [], _, p, _, hp => by simp [goR, hp]
  | W :: Ws, i, p, h, hp => by
    simp only [goR]
    rw [h W List.mem_cons_self, if_neg (by decide)]
    exact goR_none L least Ws _ _ (fun V hV => h V (List.mem_cons_of_mem _ hV)) hp
theorem rchk (Ws : List (List Int)) (least : Int) (hfin : ((Ws.flatMap pres).all fun L => decide (goR L least Ws 0 (-1) = rans (fw Ws least L))) = true) (L : List Int) :
    goR L least Ws 0 (-1) = rans (fw Ws least L) := by
  by_cases h : ∃ W ∈ Ws, L.isPrefixOf W = true
  · obtain ⟨W, hW, hp⟩ := h
    exact of_decide_eq_true (List.all_eq_true.mp hfin L (List.mem_flatMap.mpr ⟨W, hW, mem_pres hp⟩))
  · have h' : ∀ W ∈ Ws, L.isPrefixOf W = false := fun W hW => by
      cases e : L.isPrefixOf W
      · rfl
      · exact absurd ⟨W, hW, e⟩ h
    rw [goR_none L least Ws 0 (-1) h' rfl, fw_none Ws least L h']
    rfl
def leastOf (kind : Int) : Int := if kind = 2 then 3 else if kind = 3 then 3 else 1
theorem word_of (kind : Int) (hk : 1 ≤ kind ∧ kind ≤ 4) (s : ByteArray) (hs : s.size ≤ 4611686018427387904) (k : Nat) (h : s.size + 200 < k) :
    solsticeref01_Word.f k kind s = some (rans (fw ((WS kind).map low) (leastOf kind) (low s))) := by
  obtain ⟨k, rfl⟩ : ∃ m, k = m + 2 := ⟨k - 2, by omega⟩
  have go : ∀ (ws : List ByteArray) (least : Int), ws.length ≤ 100 → solsticeref01_Words.f kind = some ws → (((ws.map low).flatMap pres).all fun L => decide (goR L least (ws.map low) 0 (-1) = rans (fw (ws.map low) least L))) = true → solsticeref01_Word.j1 (k + 1) kind s least = some (rans (fw (ws.map low) least (low s))) := by
    intro ws least hws hW hfin
    simp only [solsticeref01_Word.j1]
    rw [hW]
    simp only [Option.bind_some]
    refine Eq.trans (word_l0 s hs ws hws least ws 0 k (-1) (by simp) (by simp) (by omega)) ?_
    exact congrArg some (rchk _ _ hfin _)
  have hc : kind = 1 ∨ kind = 2 ∨ kind = 3 ∨ kind = 4 := by omega
  rcases hc with rfl | rfl | rfl | rfl
  · have := go W1 1 (by decide) (by kernel_rfl) (by decide +kernel)
    simp only [solsticeref01_Word.f, solsticeref01_Word.j0]
    rw [if_neg (by decide), if_neg (by decide)]
    exact this
  · have := go W2 3 (by decide) (by kernel_rfl) (by decide +kernel)
    simp only [solsticeref01_Word.f, solsticeref01_Word.j0]
    rw [if_pos True.intro, if_pos True.intro]
    exact this
  · have := go W3 3 (by decide) (by kernel_rfl) (by decide +kernel)
    simp only [solsticeref01_Word.f, solsticeref01_Word.j0]
    rw [if_neg (by decide), if_pos (by decide)]
    exact this
  · have := go W4 1 (by decide) (by kernel_rfl) (by decide +kernel)
    simp only [solsticeref01_Word.f, solsticeref01_Word.j0]
    rw [if_neg (by decide), if_neg (by decide)]
    exact this
end Go.Proofs.YtijekkoifhmdlaaDoor.X
