import Derived.Test.YtijekkoifhmdlaaDoorF18
import Derived.Test.YtijekkoifhmdlaaDoorF8
/- Plain laws of words: which word a text is, told by lists of numbers. -/
namespace Go.Proofs.YtijekkoifhmdlaaDoor.X
open Go.RowKit Go.Proofs.YtijekkoifhmdlaaDoorW.PrintWords Go.Proofs.YtijekkoifhmdlaaDoorW.PrintLast Go.Proofs.YtijekkoifhmdlaaDoorW.PrintMore
set_option linter.unusedVariables false
set_option linter.unusedSimpArgs false
/-! small letters -/
def smI (c : Int) : Int := if 65 ≤ c ∧ c ≤ 90 then c + 32 else c
theorem small_eq (c : Int) (h0 : 0 ≤ c) (h1 : c ≤ 255) : words_small.f c = some (smI c) := by
  unfold words_small.f smI
  by_cases h : c ≥ 65
  · rw [if_pos h]
    by_cases h' : c ≤ 90
    · rw [if_pos h', if_pos ⟨h, h'⟩]; congr 1; omega
    · rw [if_neg h', if_neg (by omega)]
  · rw [if_neg h, if_neg (by omega)]
def low (s : ByteArray) : List Int := s.data.toList.map fun b => smI b.toNat
theorem low_length (s : ByteArray) : (low s).length = s.size := by simp only [low, List.length_map, Array.length_toList]; rfl
theorem low_get (s : ByteArray) (i : Nat) (h : i < s.size) : (low s).drop i = smI (bt s i) :: (low s).drop (i + 1) := by
  have hl : i < (low s).length := by rw [low_length]; exact h
  rw [List.drop_eq_getElem_cons hl]
  congr 1
  have hi : ((i : Int)).toNat < s.size := by simpa using h
  have e : bt s i = ((s[i]'h).toNat : Int) := by
    unfold bt
    rw [dif_pos hi]
    rfl
  rw [e]
  simp only [low, List.getElem_map]
  rfl
theorem wrap_id {x : Int} (h0 : -9223372036854775808 ≤ x) (h1 : x < 9223372036854775808) : wrap64 x = x := by unfold wrap64; omega
/-! a word's beginnings -/
theorem begins_l0 (w s : ByteArray) (hw : s.size ≤ w.size) (hs : s.size ≤ 4611686018427387904) (d : Nat) : ∀ (i k : Nat), i ≤ s.size → d = s.size - i → d < k →
    words_begins.l0 k w s (s.size : Int) (i : Int) = some (((low s).drop i).isPrefixOf ((low w).drop i)) := by
  induction d with
  | zero =>
    intro i k hi hd hk
    obtain ⟨k, rfl⟩ : ∃ m, k = m + 1 := ⟨k - 1, by omega⟩
    simp only [words_begins.l0]
    rw [if_neg (by omega), List.drop_eq_nil_of_le (by rw [low_length]; omega)]
    simp
  | succ d ih =>
    intro i k hi hd hk
    obtain ⟨k, rfl⟩ : ∃ m, k = m + 1 := ⟨k - 1, by omega⟩
    have hlt : i < s.size := by omega
    have b1 := bt_range s i
    have b2 := bt_range w i
    simp only [words_begins.l0]
    rw [if_pos (by omega), if_pos (by omega), if_pos (by omega), small_eq _ b1.1 b1.2]
    simp only [Option.bind_some]
    rw [if_pos (by omega), small_eq _ b2.1 b2.2]
    simp only [Option.bind_some]
    rw [low_get s i hlt, low_get w i (by omega), List.isPrefixOf_cons_cons]
    by_cases e : smI (bt s i) = smI (bt w i)
    · rw [if_pos e, wrap_id (by omega) (by omega)]
      have := ih (i + 1) k (by omega) (by omega) (by omega)
      rw [show ((i : Int) + 1) = ((i + 1 : Nat) : Int) from by omega, this, e]
      simp
    · rw [if_neg e]
      simp [e]
def begB (w s : ByteArray) : Bool := (low s).isPrefixOf (low w)
theorem begins_eq (w s : ByteArray) (hs : s.size ≤ 4611686018427387904) (k : Nat) (hk : s.size < k) : words_begins.f k w s = some (begB w s) := by
  unfold words_begins.f begB
  by_cases h : (s.size : Int) > (w.size : Int)
  · rw [if_pos h]
    congr 1
    symm
    rw [Bool.eq_false_iff]
    intro h'
    have := (List.isPrefixOf_iff_prefix.mp h').length_le
    rw [low_length, low_length] at this
    omega
  · rw [if_neg h]
    have := begins_l0 w s (by omega) hs s.size 0 k (by omega) (by omega) hk
    simpa using this
/-! which word of a list -/
def goF (L : List Int) (first least : Int) : List (List Int) → Int → Int → Int → Int × Int
  | [], _, p, many => if many = 1 then (if (L.length : Int) < least then (0, 7) else (first + p, 0)) else (0, 7)
  | W :: Ws, i, p, many => if L.isPrefixOf W then (if L.length = W.length then (if (L.length : Int) < least then (0, 7) else (first + i, 0)) else goF L first least Ws (i + 1) i (many + 1)) else goF L first least Ws (i + 1) p many
theorem find_l0 (s : ByteArray) (hs : s.size ≤ 4611686018427387904) (ws : List ByteArray) (hws : ws.length ≤ 100) (first least : Int) (hf : 0 ≤ first) (hf' : first ≤ 100) (rest : List ByteArray) :
    ∀ (i k : Nat) (p many : Int), rest = ws.drop i → i + rest.length = ws.length → rest.length + s.size + 1 < k → 0 ≤ p → p ≤ 100 → 0 ≤ many → many ≤ i →
    words_find.l0 k s p many ws (ws.length : Int) (i : Int) ws first least = some (goF (low s) first least (rest.map low) i p many) := by
  induction rest with
  | nil =>
    intro i k p many hr hi hk hp hp' hm hm'
    obtain ⟨k, rfl⟩ : ∃ m, k = m + 1 := ⟨k - 1, by omega⟩
    simp only [List.length_nil] at hi
    simp only [words_find.l0, List.map_nil, goF, low_length]
    rw [if_neg (by omega)]
    by_cases h1 : many = 1
    · rw [if_pos h1, if_pos h1]
      by_cases h2 : (s.size : Int) < least
      · rw [if_pos h2, if_pos h2]
      · rw [if_neg h2, if_neg h2, wrap_id (by omega) (by omega)]
    · rw [if_neg h1, if_neg h1]
  | cons w rest ih =>
    intro i k p many hr hi hk hp hp' hm hm'
    obtain ⟨k, rfl⟩ : ∃ m, k = m + 1 := ⟨k - 1, by omega⟩
    simp only [List.length_cons] at hi hk
    have hlt : i < ws.length := by omega
    have hw : ws[i] = w ∧ rest = ws.drop (i + 1) := by
      rw [List.drop_eq_getElem_cons hlt] at hr
      injection hr with a b
      exact ⟨a.symm, b⟩
    have hrd : rdOf ByteArray.empty ws (i : Int) = w := by
      unfold rdOf
      rw [Int.toNat_natCast, List.getD_eq_getElem?_getD, List.getElem?_eq_getElem hlt, hw.1]
      rfl
    simp only [words_find.l0]
    rw [if_pos (by omega), if_pos (by omega), if_pos (by omega), hrd, begins_eq w s hs k (by omega)]
    simp only [Option.bind_some, List.map_cons, goF, low_length]
    rw [wrap_id (x := many + 1) (by omega) (by omega), wrap_id (x := (i : Int) + 1) (by omega) (by omega), show ((i : Int) + 1) = ((i + 1 : Nat) : Int) from by omega]
    cases hb : begB w s with
    | true =>
      rw [if_pos rfl]
      unfold begB at hb
      rw [hb, if_pos rfl]
      by_cases he : (s.size : Int) = (w.size : Int)
      · rw [if_pos he, if_pos (show s.size = w.size by omega)]
        by_cases h2 : (s.size : Int) < least
        · rw [if_pos h2, if_pos h2]
        · rw [if_neg h2, if_neg h2, wrap_id (by omega) (by omega)]
      · rw [if_neg he, if_neg (by omega)]
        exact ih (i + 1) k i (many + 1) hw.2 (by omega) (by omega) (by omega) (by omega) (by omega) (by omega)
    | false =>
      rw [if_neg (by decide)]
      unfold begB at hb
      rw [hb, if_neg (by decide)]
      exact ih (i + 1) k p many hw.2 (by omega) (by omega) hp hp' hm (by omega)
/-! the kinds' words -/
def W1 : List ByteArray := [⟨#[82, 117, 108, 101]⟩, ⟨#[90, 111, 110, 101]⟩, ⟨#[76, 105, 110, 107]⟩]
def W2 : List ByteArray := [⟨#[74, 97, 110, 117, 97, 114, 121]⟩, ⟨#[70, 101, 98, 114, 117, 97, 114, 121]⟩, ⟨#[77, 97, 114, 99, 104]⟩, ⟨#[65, 112, 114, 105, 108]⟩, ⟨#[77, 97, 121]⟩, ⟨#[74, 117, 110, 101]⟩, ⟨#[74, 117, 108, 121]⟩, ⟨#[65, 117, 103, 117, 115, 116]⟩, ⟨#[83, 101, 112, 116, 101, 109, 98, 101, 114]⟩, ⟨#[79, 99, 116, 111, 98, 101, 114]⟩, ⟨#[78, 111, 118, 101, 109, 98, 101, 114]⟩, ⟨#[68, 101, 99, 101, 109, 98, 101, 114]⟩]
def W3 : List ByteArray := [⟨#[83, 117, 110, 100, 97, 121]⟩, ⟨#[77, 111, 110, 100, 97, 121]⟩, ⟨#[84, 117, 101, 115, 100, 97, 121]⟩, ⟨#[87, 101, 100, 110, 101, 115, 100, 97, 121]⟩, ⟨#[84, 104, 117, 114, 115, 100, 97, 121]⟩, ⟨#[70, 114, 105, 100, 97, 121]⟩, ⟨#[83, 97, 116, 117, 114, 100, 97, 121]⟩]
def W4 : List ByteArray := [⟨#[109, 105, 110, 105, 109, 117, 109]⟩, ⟨#[109, 97, 120, 105, 109, 117, 109]⟩, ⟨#[111, 110, 108, 121]⟩]
def WS (kind : Int) : List ByteArray := if kind = 1 then W1 else if kind = 2 then W2 else if kind = 3 then W3 else if kind = 4 then W4 else []
theorem kind1 : words_kindOf.f 1 = some (W1, 1, 1, true) := by kernel_rfl
theorem kind2 : words_kindOf.f 2 = some (W2, 1, 3, true) := by kernel_rfl
theorem kind3 : words_kindOf.f 3 = some (W3, 0, 3, true) := by kernel_rfl
theorem kind4 : words_kindOf.f 4 = some (W4, 1, 1, true) := by kernel_rfl
/-- The word that a text is: the only one that it begins, if it is long enough. -/
def fw (Ws : List (List Int)) (least : Int) (L : List Int) : Option Nat :=
  if (L.length : Int) < least then none else match (List.range Ws.length).filter fun i => L.isPrefixOf (Ws.getD i []) with
  | [i] => some i
  | _ => none
def ans (first : Int) : Option Nat → Int × Int
  | some i => (first + i, 0)
  | none => (0, 7)
def pres (W : List Int) : List (List Int) := (List.range (W.length + 1)).map fun n => W.take n
theorem mem_pres {L W : List Int} (h : L.isPrefixOf W = true) : L ∈ pres W := by
  have hp := List.isPrefixOf_iff_prefix.mp h
  unfold pres
  rw [List.mem_map]
  exact ⟨L.length, by rw [List.mem_range]; have := hp.length_le; omega, (List.prefix_iff_eq_take.mp hp).symm⟩
theorem goF_none (L : List Int) (first least : Int) : ∀ (Ws : List (List Int)) (i p many : Int), (∀ W ∈ Ws, L.isPrefixOf W = false) → many = 0 → goF L first least Ws i p many = (0, 7)
  | [], _, _, many, _, hm => by simp [goF, hm]
  | W :: Ws, i, p, many, h, hm => by
    simp only [goF]
    rw [h W List.mem_cons_self, if_neg (by decide)]
    exact goF_none L first least Ws _ _ _ (fun V hV => h V (List.mem_cons_of_mem _ hV)) hm
theorem fw_none (Ws : List (List Int)) (least : Int) (L : List Int) (h : ∀ W ∈ Ws, L.isPrefixOf W = false) : fw Ws least L = none := by
  unfold fw
  by_cases hl : (L.length : Int) < least
  · rw [if_pos hl]
  · rw [if_neg hl]
    have : ((List.range Ws.length).filter fun i => L.isPrefixOf (Ws.getD i [])) = [] := by
      rw [List.filter_eq_nil_iff]
      intro i hi
      have hlt := List.mem_range.mp hi
      rw [List.getD_eq_getElem?_getD, List.getElem?_eq_getElem hlt]
      have := h _ (List.getElem_mem hlt)
      simp [this]
    rw [this]
theorem chk (Ws : List (List Int)) (first least : Int) (hfin : ((Ws.flatMap pres).all fun L => decide (goF L first least Ws 0 0 0 = ans first (fw Ws least L))) = true) (L : List Int) :
    goF L first least Ws 0 0 0 = ans first (fw Ws least L) := by
  by_cases h : ∃ W ∈ Ws, L.isPrefixOf W = true
  · obtain ⟨W, hW, hp⟩ := h
    exact of_decide_eq_true (List.all_eq_true.mp hfin L (List.mem_flatMap.mpr ⟨W, hW, mem_pres hp⟩))
  · have h' : ∀ W ∈ Ws, L.isPrefixOf W = false := fun W hW => by
      cases e : L.isPrefixOf W
      · rfl
      · exact absurd ⟨W, hW, e⟩ h
    rw [goF_none L first least Ws 0 0 0 h' rfl, fw_none Ws least L h']
    rfl
theorem find_of (kind : Int) (ws : List ByteArray) (first least : Int) (hk : words_kindOf.f kind = some (ws, first, least, true)) (hws : ws.length ≤ 100) (hf : 0 ≤ first) (hf' : first ≤ 100)
    (hfin : (((ws.map low).flatMap pres).all fun L => decide (goF L first least (ws.map low) 0 0 0 = ans first (fw (ws.map low) least L))) = true)
    (s : ByteArray) (hs : s.size ≤ 4611686018427387904) (k : Nat) (h : s.size + 200 < k) : words_find.f k kind s = some (ans first (fw (ws.map low) least (low s))) := by
  unfold words_find.f
  rw [hk]
  simp only [Option.bind_some]
  refine Eq.trans (find_l0 s hs ws hws first least hf hf' ws 0 k 0 0 (by simp) (by simp) (by omega) (by decide) (by decide) (by decide) (by decide)) ?_
  exact congrArg some (chk _ _ _ hfin _)
theorem fin1 : (((W1.map low).flatMap pres).all fun L => decide (goF L 1 1 (W1.map low) 0 0 0 = ans 1 (fw (W1.map low) 1 L))) = true := by decide +kernel
theorem fin2 : (((W2.map low).flatMap pres).all fun L => decide (goF L 1 3 (W2.map low) 0 0 0 = ans 1 (fw (W2.map low) 3 L))) = true := by decide +kernel
theorem fin3 : (((W3.map low).flatMap pres).all fun L => decide (goF L 0 3 (W3.map low) 0 0 0 = ans 0 (fw (W3.map low) 3 L))) = true := by decide +kernel
theorem fin4 : (((W4.map low).flatMap pres).all fun L => decide (goF L 1 1 (W4.map low) 0 0 0 = ans 1 (fw (W4.map low) 1 L))) = true := by decide +kernel
theorem find1 (s : ByteArray) (hs : s.size ≤ 4611686018427387904) (k : Nat) (h : s.size + 200 < k) : words_find.f k 1 s = some (ans 1 (fw (W1.map low) 1 (low s))) := find_of 1 W1 1 1 kind1 (by decide) (by decide) (by decide) fin1 s hs k h
theorem find2 (s : ByteArray) (hs : s.size ≤ 4611686018427387904) (k : Nat) (h : s.size + 200 < k) : words_find.f k 2 s = some (ans 1 (fw (W2.map low) 3 (low s))) := find_of 2 W2 1 3 kind2 (by decide) (by decide) (by decide) fin2 s hs k h
theorem find3 (s : ByteArray) (hs : s.size ≤ 4611686018427387904) (k : Nat) (h : s.size + 200 < k) : words_find.f k 3 s = some (ans 0 (fw (W3.map low) 3 (low s))) := find_of 3 W3 0 3 kind3 (by decide) (by decide) (by decide) fin3 s hs k h
theorem find4 (s : ByteArray) (hs : s.size ≤ 4611686018427387904) (k : Nat) (h : s.size + 200 < k) : words_find.f k 4 s = some (ans 1 (fw (W4.map low) 1 (low s))) := find_of 4 W4 1 1 kind4 (by decide) (by decide) (by decide) fin4 s hs k h
end Go.Proofs.YtijekkoifhmdlaaDoor.X
