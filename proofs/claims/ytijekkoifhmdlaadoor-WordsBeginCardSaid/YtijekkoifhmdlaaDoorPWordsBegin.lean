import Derived.Test.YtijekkoifhmdlaaDoorPRefWord
import Derived.Test.YtijekkoifhmdlaaDoorF4
/- The one plain statement of WordsBegin. -/
namespace Go.Proofs.YtijekkoifhmdlaaDoor.X
open Go.RowKit Go.Proofs.YtijekkoifhmdlaaDoorW.PrintWords Go.Proofs.YtijekkoifhmdlaaDoorW.PrintLast Go.Proofs.YtijekkoifhmdlaaDoorW.PrintMore
set_option linter.unusedVariables false
set_option linter.unusedSimpArgs false
theorem tell_eq (kind : Int) (hk : 1 ≤ kind ∧ kind ≤ 4) (s : ByteArray) (hs : s.size ≤ 4611686018427387904) (k : Nat) (h : s.size + 200 < k) :
    solsticelaw06_tell.f k kind s = some (ans (if kind = 3 then 0 else 1) (fw ((WS kind).map low) (leastOf kind) (low s))) := by
  have hc : kind = 1 ∨ kind = 2 ∨ kind = 3 ∨ kind = 4 := by omega
  rcases hc with rfl | rfl | rfl | rfl
  · unfold solsticelaw06_tell.f words_Line.f
    rw [if_pos rfl, find1 s hs k h]; rfl
  · unfold solsticelaw06_tell.f words_Month.f
    rw [if_neg (by decide), if_pos rfl, find2 s hs k h]; rfl
  · unfold solsticelaw06_tell.f words_Weekday.f
    rw [if_neg (by decide), if_neg (by decide), if_pos rfl, find3 s hs k h]; rfl
  · unfold solsticelaw06_tell.f words_Year.f
    rw [if_neg (by decide), if_neg (by decide), if_neg (by decide), find4 s hs k h]; rfl
theorem wakes06 (k : Nat) (h : 60 ≤ k) : solsticelaw06_wakes.f k = some true := at_rounds (g := solsticelaw06_wakes.f) (solsticelaw06_wakes.mono) h (by kernel_rfl)
theorem name_of (kind : Int) (ws : List ByteArray) (first least : Int) (hk : words_kindOf.f kind = some (ws, first, least, true)) (hl : ws.length ≤ 12) (hf : first = 0 ∨ first = 1) (i : Int) (hi : -9223372036854775808 ≤ i ∧ i < 9223372036854775808) :
    (i < first ∨ first + ws.length ≤ i → words_Name.f kind i = some (⟨#[]⟩, 1)) ∧ (first ≤ i → i < first + ws.length → words_Name.f kind i = some (rdOf ByteArray.empty ws (i - first), 0)) := by
  unfold words_Name.f
  rw [hk]
  simp only [Option.bind_some, if_true]
  constructor
  · intro h
    by_cases h1 : i < first
    · rw [if_pos h1]
    · rw [if_neg h1, wrap_id (x := first + ws.length) (by omega) (by omega), if_pos (by omega)]
  · intro h1 h2
    rw [if_neg (by omega), wrap_id (x := first + ws.length) (by omega) (by omega), if_neg (by omega), wrap_id (x := i - first) (by omega) (by omega), if_pos (by omega), if_pos (by omega)]

/-- A byte as a number. -/
def okB (c : Int) : Prop := 0 ≤ c ∧ c ≤ 255
theorem low_strOfNums (xs : List Int) (h : ∀ c ∈ xs, okB c) : low (strOfNums xs) = xs.map smI := by
  unfold low
  rw [strOfNums_data, List.map_map]
  refine List.map_congr_left fun c hc => ?_
  have := h c hc
  unfold okB at this
  simp only [Function.comp]
  congr 1
  rw [UInt8.toNat_ofNat']
  omega
theorem smI_up (c : Int) (h0 : 97 ≤ c) (h1 : c ≤ 122) : smI ((c - 32) % 256) = smI c ∧ okB ((c - 32) % 256) := by
  unfold smI okB
  rw [if_pos (by omega), if_neg (by omega)]
  omega
theorem smI_down (c : Int) (h0 : 65 ≤ c) (h1 : c ≤ 90) : smI ((c + 32) % 256) = smI c ∧ okB ((c + 32) % 256) := by
  unfold smI okB
  rw [if_neg (by omega), if_pos (by omega)]
  omega
theorem set_same (xs : List Int) (i : Nat) (y : Int) (h : i < xs.length) (hy : smI y = smI (rd xs i)) : (xs.set i y).map smI = xs.map smI := by
  have e : rd xs (i : Int) = xs[i] := by unfold rd; rw [Int.toNat_natCast, List.getD_eq_getElem?_getD, List.getElem?_eq_getElem h]; rfl
  rw [e] at hy
  rw [List.map_set, hy]
  have := List.getElem_map smI (l := xs) (i := i) (h := by simpa using h)
  rw [← this]
  exact List.set_getElem_self _
theorem rd_ok (xs : List Int) (h : ∀ c ∈ xs, okB c) (i : Nat) (hi : i < xs.length) : okB (rd xs i) := by
  unfold rd
  rw [Int.toNat_natCast, List.getD_eq_getElem?_getD, List.getElem?_eq_getElem hi]
  exact h _ (List.getElem_mem hi)
theorem set_ok (xs : List Int) (h : ∀ c ∈ xs, okB c) (i : Nat) (y : Int) (hy : okB y) : ∀ c ∈ xs.set i y, okB c := by
  intro c hc
  rcases List.mem_or_eq_of_mem_set hc with h1 | rfl
  · exact h c h1
  · exact hy
/-- The loop that turns letters leaves them the same letters. -/
theorem turn_loop (x0 x1 x2 : Int) (x3 : List Bool) (x9 : Int) (x10 : ByteArray) (d : Nat) : ∀ (xs : List Int) (i k : Nat), (∀ c ∈ xs, okB c) → xs.length ≤ 1000 → i ≤ xs.length → d = xs.length - i →
    ∃ ys : List Int, (∀ c ∈ ys, okB c) ∧ ys.map smI = xs.map smI ∧ solsticelaw06_WordsBegin.l0 (k + 2 * d + 1) x0 x1 x2 x3 x9 x10 xs (i : Int) = solsticelaw06_WordsBegin.l1 k x0 x1 x2 x9 x10 ys 0 0 := by
  induction d with
  | zero =>
    intro xs i k hx hl hi hd
    refine ⟨xs, hx, rfl, ?_⟩
    rw [show k + 2 * 0 + 1 = k + 1 by omega]
    conv => lhs; rw [solsticelaw06_WordsBegin.l0]
    rw [if_neg (by omega)]
  | succ d ih =>
    intro xs i k hx hl hi hd
    have hlt : i < xs.length := by omega
    have hw : wrap64 ((i : Int) + 1) = ((i + 1 : Nat) : Int) := by rw [wrap_id (by omega) (by omega)]; omega
    have hr := rd_ok xs hx i hlt
    rw [show k + 2 * (d + 1) + 1 = (k + 2 * d + 1) + 1 + 1 by omega]
    have same : ∃ ys : List Int, (∀ c ∈ ys, okB c) ∧ ys.map smI = xs.map smI ∧ solsticelaw06_WordsBegin.l0 (k + 2 * d + 1) x0 x1 x2 x3 x9 x10 xs ((i + 1 : Nat) : Int) = solsticelaw06_WordsBegin.l1 k x0 x1 x2 x9 x10 ys 0 0 :=
      ih xs (i + 1) k hx hl (by omega) (by omega)
    have put : ∀ y : Int, smI y = smI (rd xs (i : Int)) → okB y → ∃ ys : List Int, (∀ c ∈ ys, okB c) ∧ ys.map smI = xs.map smI ∧ solsticelaw06_WordsBegin.l0 (k + 2 * d + 1) x0 x1 x2 x3 x9 x10 (xs.set i y) ((i + 1 : Nat) : Int) = solsticelaw06_WordsBegin.l1 k x0 x1 x2 x9 x10 ys 0 0 := by
      intro y hy hok
      obtain ⟨ys, h1, h2, h3⟩ := ih (xs.set i y) (i + 1) k (set_ok xs hx i y hok) (by rw [List.length_set]; exact hl) (by rw [List.length_set]; omega) (by rw [List.length_set]; omega)
      exact ⟨ys, h1, h2.trans (set_same xs i y hlt hy), h3⟩
    have j2t : (97 ≤ rd xs (i : Int) ∧ rd xs (i : Int) ≤ 122) → ∃ ys : List Int, (∀ c ∈ ys, okB c) ∧ ys.map smI = xs.map smI ∧ solsticelaw06_WordsBegin.j2 (k + 2 * d + 1 + 1) x0 x1 x2 x3 x9 x10 xs (i : Int) true = solsticelaw06_WordsBegin.l1 k x0 x1 x2 x9 x10 ys 0 0 := by
      rintro ⟨h0, h1⟩
      rw [solsticelaw06_WordsBegin.j2]
      rw [if_pos rfl, if_pos (by omega), if_pos (by omega), hw, Int.toNat_natCast]
      exact put _ (smI_up _ h0 h1).1 (smI_up _ h0 h1).2
    have j2f : ∃ ys : List Int, (∀ c ∈ ys, okB c) ∧ ys.map smI = xs.map smI ∧ solsticelaw06_WordsBegin.j2 (k + 2 * d + 1 + 1) x0 x1 x2 x3 x9 x10 xs (i : Int) false = solsticelaw06_WordsBegin.l1 k x0 x1 x2 x9 x10 ys 0 0 := by
      rw [solsticelaw06_WordsBegin.j2]
      rw [if_neg (by decide), hw]
      by_cases h1 : (i : Int) < (x3.length : Int)
      · rw [if_pos h1, if_pos (by omega)]
        by_cases h2 : rdOf false x3 (i : Int) = true
        · rw [if_pos h2]; exact same
        · rw [if_neg h2, if_pos (by omega)]
          by_cases h3 : rd xs (i : Int) ≥ 65
          · rw [if_pos h3]
            by_cases h4 : rd xs (i : Int) ≤ 90
            · rw [if_pos h4, Int.toNat_natCast]
              exact put _ (smI_down _ h3 h4).1 (smI_down _ h3 h4).2
            · rw [if_neg h4]; exact same
          · rw [if_neg h3]; exact same
      · rw [if_neg h1]; exact same
    rw [solsticelaw06_WordsBegin.l0]
    rw [if_pos (by omega)]
    by_cases h1 : (i : Int) < (x3.length : Int)
    · rw [if_pos h1, if_pos (by omega)]
      by_cases h2 : rdOf false x3 (i : Int) = true
      · rw [if_pos h2]
        by_cases h3 : rd xs (i : Int) ≥ 97
        · rw [if_pos h3]
          by_cases h4 : rd xs (i : Int) ≤ 122
          · rw [decide_eq_true h4]; exact j2t ⟨h3, h4⟩
          · rw [decide_eq_false h4]; exact j2f
        · rw [if_neg h3]; exact j2f
      · rw [if_neg h2]; exact j2f
    · rw [if_neg h1]; exact j2f
/-- How many of the words a beginning is of. -/
def cnt (Ws : List (List Int)) (L : List Int) : Nat := (Ws.filter fun W => L.isPrefixOf W).length
/-- The answer that is wanted: of the words' small letters. -/
def wantOf (Wl : List (List Int)) (first least : Int) (i n : Nat) : Bool :=
  let W := Wl.getD i []; let L := W.take n; let a := ans first (fw Wl least L)
  if n < W.length && (decide ((n : Int) < least) || decide (1 < cnt Wl L)) then a == (0, 7) else a == (first + i, 0)
def wantW (Wl : List (List Int)) (first least : Int) (i : Nat) : Bool :=
  let W := Wl.getD i []
  decide (3 ≤ W.length) && decide (W.length ≤ 10) && (ans first (fw Wl least (W ++ [120]))).2 == 7 && (List.range 10).all fun n => decide (W.length < n + 1) || wantOf Wl first least i (n + 1)
def wants (Wl : List (List Int)) (first least : Int) : Bool := ((List.range Wl.length).all fun i => wantW Wl first least i) && (ans first (fw Wl least [])).2 == 7
def L1 : List (List Int) := [[114, 117, 108, 101], [122, 111, 110, 101], [108, 105, 110, 107]]
def L2 : List (List Int) := [[106, 97, 110, 117, 97, 114, 121], [102, 101, 98, 114, 117, 97, 114, 121], [109, 97, 114, 99, 104], [97, 112, 114, 105, 108], [109, 97, 121], [106, 117, 110, 101], [106, 117, 108, 121], [97, 117, 103, 117, 115, 116], [115, 101, 112, 116, 101, 109, 98, 101, 114], [111, 99, 116, 111, 98, 101, 114], [110, 111, 118, 101, 109, 98, 101, 114], [100, 101, 99, 101, 109, 98, 101, 114]]
def L3 : List (List Int) := [[115, 117, 110, 100, 97, 121], [109, 111, 110, 100, 97, 121], [116, 117, 101, 115, 100, 97, 121], [119, 101, 100, 110, 101, 115, 100, 97, 121], [116, 104, 117, 114, 115, 100, 97, 121], [102, 114, 105, 100, 97, 121], [115, 97, 116, 117, 114, 100, 97, 121]]
def L4 : List (List Int) := [[109, 105, 110, 105, 109, 117, 109], [109, 97, 120, 105, 109, 117, 109], [111, 110, 108, 121]]
theorem low1 : W1.map low = L1 := by decide +kernel
theorem low2 : W2.map low = L2 := by decide +kernel
theorem low3 : W3.map low = L3 := by decide +kernel
theorem low4 : W4.map low = L4 := by decide +kernel
theorem want1 : wants L1 1 1 = true := by decide +kernel
theorem want2 : wants L2 1 3 = true := by decide +kernel
theorem want3 : wants L3 0 3 = true := by decide +kernel
theorem want4 : wants L4 1 1 = true := by decide +kernel
theorem low_getD (ws : List ByteArray) (i : Nat) (h : i < ws.length) : (ws.map low).getD i [] = low (ws.getD i ByteArray.empty) := by
  simp [List.getD_eq_getElem?_getD, h]
theorem low_x (s : ByteArray) : low (s ++ (⟨#[120]⟩ : ByteArray)) = low s ++ [120] := by
  unfold low
  rw [ByteArray.data_append, Array.toList_append, List.map_append]
  rfl
theorem rdOf_nat (ws : List ByteArray) (i : Nat) : rdOf ByteArray.empty ws (i : Int) = ws.getD i ByteArray.empty := by unfold rdOf; rw [Int.toNat_natCast]
section
variable (kind : Int) (ws : List ByteArray) (first least : Int)
/-- What is known of a kind. -/
structure KD : Prop where
  kd : 1 ≤ kind ∧ kind ≤ 4
  ko : words_kindOf.f kind = some (ws, first, least, true)
  fi : solsticelaw06_first.f kind = some first
  le : ws.length ≤ 12
  f01 : first = 0 ∨ first = 1
  lst : leastOf kind = least
  wsk : WS kind = ws
  fk : (if kind = 3 then (0 : Int) else 1) = first
  wn : wants (ws.map low) first least = true
variable {kind ws first least}
theorem KD.tell (h : KD kind ws first least) (s : ByteArray) (hs : s.size ≤ 1000) (k : Nat) (hk : 1300 ≤ k) : solsticelaw06_tell.f k kind s = some (ans first (fw (ws.map low) least (low s))) := by
  have := tell_eq kind h.kd s (by omega) k (by omega)
  rwa [h.wsk, h.lst, h.fk] at this
theorem KD.name (h : KD kind ws first least) (i : Nat) (hi : i < ws.length) : words_Name.f kind (wrap64 ((i : Int) + first)) = some (ws.getD i ByteArray.empty, 0) := by
  have h1 := h.le; have h2 := h.f01
  rw [wrap_id (by omega) (by omega)]
  have := (name_of kind ws first least h.ko h.le h.f01 ((i : Int) + first) (by omega)).2 (by omega) (by omega)
  rw [this, show (i : Int) + first - first = i by omega, rdOf_nat]
theorem KD.at (h : KD kind ws first least) (i : Nat) (hi : i < ws.length) : wantW (ws.map low) first least i = true := by
  have h1 := h.wn
  unfold wants at h1
  rw [Bool.and_eq_true, List.all_eq_true] at h1
  exact h1.1 i (List.mem_range.mpr (by rw [List.length_map]; exact hi))
theorem KD.word (h : KD kind ws first least) (i : Nat) (hi : i < ws.length) : 3 ≤ (ws.getD i ByteArray.empty).size ∧ (ws.getD i ByteArray.empty).size ≤ 10 ∧ (ans first (fw (ws.map low) least (low ((ws.getD i ByteArray.empty) ++ (⟨#[120]⟩ : ByteArray))))).2 = 7 := by
  have h1 := h.at i hi
  unfold wantW at h1
  rw [low_getD ws i hi] at h1
  simp only [Bool.and_eq_true, decide_eq_true_eq, beq_iff_eq, low_length] at h1
  rw [low_x]
  exact ⟨h1.1.1.1, h1.1.1.2, h1.1.2⟩
theorem KD.empty (h : KD kind ws first least) : (ans first (fw (ws.map low) least (low (⟨#[]⟩ : ByteArray)))).2 = 7 := by
  have h1 := h.wn
  unfold wants at h1
  rw [Bool.and_eq_true] at h1
  exact beq_iff_eq.mp h1.2
theorem KD.want (h : KD kind ws first least) (i n : Nat) (hi : i < ws.length) (hn0 : 1 ≤ n) (hn : n ≤ (ws.getD i ByteArray.empty).size) : wantOf (ws.map low) first least i n = true := by
  have h3 := (h.word i hi).2.1
  have h1 := h.at i hi
  unfold wantW at h1
  rw [low_getD ws i hi] at h1
  simp only [Bool.and_eq_true, List.all_eq_true, low_length] at h1
  have h4 := h1.2 (n - 1) (List.mem_range.mpr (by omega))
  simp only [Bool.or_eq_true, decide_eq_true_eq] at h4
  rw [show n - 1 + 1 = n by omega] at h4
  exact h4.resolve_left (by omega)
theorem wrap_succ (n : Nat) (h : n < 1000) : wrap64 ((n : Int) + 1) = ((n + 1 : Nat) : Int) := by
  rw [wrap_id (by omega) (by omega)]
  rfl
/-- The loop that counts. -/
theorem count_loop (h : KD kind ws first least) (x1 x2 : Int) (x10 : ByteArray) (ys : List Int) (hy : ∀ c ∈ ys, okB c) (hl : ys.length ≤ 100) (R : Option Bool) (d : Nat) : ∀ (rest : List ByteArray) (j o k : Nat), rest = ws.drop j → d = rest.length → j ≤ ws.length → o ≤ j → 1300 ≤ k →
    solsticelaw06_WordsBegin.l1 (k + d + 1) kind x1 x2 (ws.length : Int) x10 ys (o : Int) (j : Int) =
      (if kind = 2 then (solsticelaw06_WordsBegin.j4 k kind x1 x2 x10 ((o + cnt (rest.map low) (ys.map smI) : Nat) : Int) (ans first (fw (ws.map low) least (ys.map smI))).1 (ans first (fw (ws.map low) least (ys.map smI))).2 1 true) else (solsticelaw06_WordsBegin.j4 k kind x1 x2 x10 ((o + cnt (rest.map low) (ys.map smI) : Nat) : Int) (ans first (fw (ws.map low) least (ys.map smI))).1 (ans first (fw (ws.map low) least (ys.map smI))).2 1 (kind == 3))) := by
  have hle := h.le
  have hsz : (strOfNums ys).size ≤ 100 := by rw [strOfNums_size]; exact hl
  induction d with
  | zero =>
    intro rest j o k hr hd hj ho hk
    have hj2 : j = ws.length := by
      have : rest.length = ws.length - j := by rw [hr, List.length_drop]
      omega
    have hnil : rest = [] := List.eq_nil_of_length_eq_zero hd.symm
    rw [show k + 0 + 1 = k + 1 by omega]
    conv => lhs; rw [solsticelaw06_WordsBegin.l1]
    rw [if_neg (by omega), h.tell (strOfNums ys) (by omega) k hk, low_strOfNums ys hy]
    simp only [Option.bind_some, hnil, List.map_nil, cnt, List.filter_nil, List.length_nil, Nat.add_zero]
  | succ d ih =>
    intro rest j o k hr hd hj ho hk
    have hlen : rest.length = ws.length - j := by rw [hr, List.length_drop]
    have hlt : j < ws.length := by omega
    have hd1 : d = (ws.drop (j + 1)).length := by rw [List.length_drop]; omega
    have hj1 : j + 1 ≤ ws.length := hlt
    have ho1 : o + 1 ≤ j + 1 := by omega
    have ho2 : o ≤ j + 1 := by omega
    have hdrop : rest = ws.getD j ByteArray.empty :: ws.drop (j + 1) := by
      rw [hr, List.drop_eq_getElem_cons hlt, List.getD_eq_getElem?_getD, List.getElem?_eq_getElem hlt]
      rfl
    rw [show k + (d + 1) + 1 = (k + d + 1) + 1 by omega]
    conv => lhs; rw [solsticelaw06_WordsBegin.l1]
    rw [if_pos (by omega), h.fi]
    simp only [Option.bind_some]
    rw [h.name j hlt]
    simp only [Option.bind_some, if_true]
    rw [rbegins_eq (strOfNums ys) _ (by omega) _ (by omega)]
    simp only [Option.bind_some]
    have hb : begB (ws.getD j ByteArray.empty) (strOfNums ys) = (ys.map smI).isPrefixOf (low (ws.getD j ByteArray.empty)) := by unfold begB; rw [low_strOfNums ys hy]
    have hj2 : j < 1000 := Nat.lt_of_lt_of_le hlt (Nat.le_trans hle (by decide))
    have hw := wrap_succ j hj2
    have hw2 := wrap_succ o (Nat.lt_of_le_of_lt ho hj2)
    have hc : cnt (rest.map low) (ys.map smI) = (if begB (ws.getD j ByteArray.empty) (strOfNums ys) = true then 1 else 0) + cnt ((ws.drop (j + 1)).map low) (ys.map smI) := by
      rw [hb, hdrop, List.map_cons]
      simp only [cnt, List.filter_cons]
      split
      · simp only [List.length_cons]; omega
      · omega
    rw [hw, hw2, hc]
    by_cases hbt : begB (ws.getD j ByteArray.empty) (strOfNums ys) = true
    · rw [if_pos hbt, if_pos hbt, ih (ws.drop (j + 1)) (j + 1) (o + 1) k rfl hd1 hj1 ho1 hk, Nat.add_assoc o 1]
    · rw [if_neg hbt, if_neg hbt, ih (ws.drop (j + 1)) (j + 1) o k rfl hd1 hj1 ho2 hk, Nat.zero_add]
/-- From the first loop on. -/
theorem KD.all (h : KD kind ws first least) (l3 : List Bool) (i n : Nat) (hi : i < ws.length) (hn0 : 1 ≤ n) (hn : n ≤ (ws.getD i ByteArray.empty).size) (k : Nat) (hk : k = 1400) :
    solsticelaw06_WordsBegin.l0 k kind (wrap64 ((i : Int) + first)) (n : Int) l3 (ws.length : Int) (ws.getD i ByteArray.empty) (bytesOf ((ws.getD i ByteArray.empty).extract 0 n)) 0 = some true := by
  obtain ⟨hs3, hs10, hx⟩ := h.word i hi
  have hwant := h.want i n hi hn0 hn
  have hle := h.le; have h01 := h.f01
  generalize hs : ws.getD i ByteArray.empty = s at hs3 hs10 hx hn ⊢
  have hlen : (bytesOf (s.extract 0 n)).length = n := by rw [bytesOf_length, ByteArray.size_extract]; omega
  have hb : ∀ c ∈ bytesOf (s.extract 0 n), okB c := by
    intro c hc
    unfold bytesOf at hc
    obtain ⟨b, _, rfl⟩ := List.mem_map.mp hc
    have := b.toNat_lt
    unfold okB
    omega
  have hlow : (bytesOf (s.extract 0 n)).map smI = (low s).take n := by
    unfold bytesOf low
    rw [List.map_map, ← List.map_take]
    have : (s.extract 0 n).data.toList = s.data.toList.take n := by
      rw [ByteArray.data_extract, Array.toList_extract]
      simp
    rw [this]
    rfl
  obtain ⟨ys, hy, hys, e⟩ := turn_loop kind (wrap64 ((i : Int) + first)) (n : Int) l3 (ws.length : Int) s n (bytesOf (s.extract 0 n)) 0 (1399 - 2 * n) hb (by omega) (Nat.zero_le _) (by omega)
  rw [hk, show (1400 : Nat) = 1399 - 2 * n + 2 * n + 1 by omega]
  have e0 : ((0 : Nat) : Int) = 0 := rfl
  rw [e0] at e
  rw [e]
  have hyl : ys.length = n := by
    have := congrArg List.length hys
    simpa [hlen] using this
  have hc := count_loop h (wrap64 ((i : Int) + first)) (n : Int) s ys hy (by omega) none ws.length ws 0 0 (1399 - 2 * n - ws.length - 1) rfl rfl (by omega) (by omega) (by omega)
  rw [show 1399 - 2 * n - ws.length - 1 + ws.length + 1 = 1399 - 2 * n by omega, e0] at hc
  rw [hc, hys, hlow, Nat.zero_add]
  clear hc e hb hlow hys
  obtain ⟨q, hq⟩ : ∃ q, 1399 - 2 * n - ws.length - 1 = q + 4 := ⟨1399 - 2 * n - ws.length - 1 - 4, by omega⟩
  rw [hq]
  have hq2 : 1300 ≤ q + 2 := by omega
  have ew : wrap64 ((i : Int) + first) = (i : Int) + first := wrap_id (by omega) (by omega)
  have wk := wakes06 q (by omega)
  have tx := h.tell (s ++ (⟨#[120]⟩ : ByteArray)) (by rw [ByteArray.size_append]; show s.size + 1 ≤ 1000; omega) (q + 2) hq2
  have te := h.tell (⟨#[]⟩ : ByteArray) (by decide) (q + 2) hq2
  have hx7 := hx
  have he7 := h.empty
  simp only [wantOf, low_getD ws i hi, hs] at hwant
  have hL : (low s).length = s.size := low_length s
  rw [hL] at hwant
  generalize hA : ans first (fw (ws.map low) least ((low s).take n)) = A at hwant ⊢
  generalize hC : cnt (ws.map low) ((low s).take n) = C at hwant ⊢
  have fin5 : ∀ x18 x19 : Int, (x18, x19) = A → solsticelaw06_WordsBegin.j5 (q + 3) kind (wrap64 ((i : Int) + first)) (n : Int) s (C : Int) x18 x19 least = some true := by
    rintro x18 x19 rfl
    rw [solsticelaw06_WordsBegin.j5]
    rw [if_pos (by omega), tx]
    simp only [Option.bind_some]
    rw [te]
    simp only [Option.bind_some]
    rw [if_pos hx7, he7]
    rw [show ((7 : Int) != 7) = false from rfl, solsticelaw06_WordsBegin.j6]
    rw [if_neg (by decide)]
    have jt : (x18, x19) = ((0 : Int), (7 : Int)) → solsticelaw06_WordsBegin.j7 (q + 1) (wrap64 ((i : Int) + first)) x18 x19 true = some true := by
      intro e
      obtain ⟨rfl, rfl⟩ := Prod.mk.inj e
      rw [solsticelaw06_WordsBegin.j7]
      rw [if_pos rfl, if_pos rfl, if_pos rfl, wk]
      rfl
    have jf : (x18, x19) = (first + (i : Int), (0 : Int)) → solsticelaw06_WordsBegin.j7 (q + 1) (wrap64 ((i : Int) + first)) x18 x19 false = some true := by
      intro e
      obtain ⟨rfl, rfl⟩ := Prod.mk.inj e
      rw [solsticelaw06_WordsBegin.j7]
      rw [if_neg (by decide), if_pos rfl, if_pos (by rw [ew]; omega), wk]
      rfl
    by_cases h1 : (n : Int) < (s.size : Int)
    · rw [if_pos h1]
      have h1' : decide (n < s.size) = true := decide_eq_true (by omega)
      by_cases h2 : (n : Int) < least
      · rw [if_pos h2]
        rw [h1', decide_eq_true h2] at hwant
        exact jt (by simpa using hwant)
      · rw [if_neg h2]
        rw [h1', decide_eq_false h2] at hwant
        by_cases h3 : 1 < C
        · rw [show decide ((C : Int) > 1) = true from decide_eq_true (by omega)]
          rw [decide_eq_true h3] at hwant
          exact jt (by simpa using hwant)
        · rw [show decide ((C : Int) > 1) = false from decide_eq_false (by omega)]
          rw [decide_eq_false h3] at hwant
          exact jf (by simpa using hwant)
    · rw [if_neg h1]
      rw [show decide (n < s.size) = false from decide_eq_false (by omega)] at hwant
      exact jf (by simpa using hwant)
  have hlst := h.lst
  unfold leastOf at hlst
  by_cases k2 : kind = 2
  · rw [if_pos k2] at hlst
    rw [if_pos k2, solsticelaw06_WordsBegin.j4]
    rw [if_pos rfl, hlst]
    exact fin5 _ _ rfl
  · rw [if_neg k2] at hlst
    rw [if_neg k2, solsticelaw06_WordsBegin.j4]
    by_cases k3 : kind = 3
    · rw [if_pos k3] at hlst
      rw [if_pos (by rw [k3]; rfl), hlst]
      exact fin5 _ _ rfl
    · rw [if_neg k3] at hlst
      rw [if_neg (by simpa using k3), hlst]
      exact fin5 _ _ rfl
end
theorem kdA : KD 1 W1 1 1 := ⟨by decide, kind1, by kernel_rfl, by decide, by decide, rfl, rfl, rfl, by rw [low1]; exact want1⟩
theorem kdB : KD 2 W2 1 3 := ⟨by decide, kind2, by kernel_rfl, by decide, by decide, rfl, rfl, rfl, by rw [low2]; exact want2⟩
theorem kdC : KD 3 W3 0 3 := ⟨by decide, kind3, by kernel_rfl, by decide, by decide, rfl, rfl, rfl, by rw [low3]; exact want3⟩
theorem kdD : KD 4 W4 1 1 := ⟨by decide, kind4, by kernel_rfl, by decide, by decide, rfl, rfl, rfl, by rw [low4]; exact want4⟩
theorem tmod_range (x m : Int) (h0 : 0 < m) (h1 : m ≤ 100) : ∃ j : Nat, wrap64 (Int.tmod (IntKind.u64.wrap x) m) = (j : Int) ∧ (j : Int) < m ∧ Int.tmod (IntKind.u64.wrap x) m = (j : Int) := by
  have h : 0 ≤ IntKind.u64.wrap x := by
    unfold IntKind.wrap
    simp only [IntKind.signed, Bool.false_and]
    exact Int.emod_nonneg _ (by decide)
  generalize IntKind.u64.wrap x = y at h ⊢
  rw [Int.tmod_eq_emod_of_nonneg h]
  have e0 := Int.emod_nonneg y (show m ≠ 0 by omega)
  have e1 := Int.emod_lt_of_pos y h0
  exact ⟨(y % m).toNat, by rw [wrap_id (by omega) (by omega)]; omega, by omega, by omega⟩
theorem u64_small (m : Int) (h0 : 0 ≤ m) (h1 : m ≤ 100) : IntKind.u64.wrap m = m := by
  unfold IntKind.wrap
  simp only [IntKind.signed, Bool.false_and]
  rw [if_neg (by decide)]
  exact Int.emod_eq_of_lt h0 (by show m < 2 ^ 64; omega)
/-- Everything behind the choice of a kind. -/
theorem KD.fin {kind : Int} {ws : List ByteArray} {first least : Int} (h : KD kind ws first least) (a1 a2 : Int) (l3 : List Bool) (hpos : 0 < ws.length) :
    ((solsticelaw06_first.f kind).bind fun t199 => ((words_Name.f kind (wrap64 ((wrap64 (Int.tmod (IntKind.u64.wrap (a1)) (IntKind.u64.wrap (ws.length : Int)))) + t199))).bind fun bt200 => (if bt200.2 = 0 then (solsticelaw06_WordsBegin.j0 1401 kind (wrap64 ((wrap64 (Int.tmod (IntKind.u64.wrap (a1)) (IntKind.u64.wrap (ws.length : Int)))) + t199)) a2 l3 (ws.length : Int) bt200.1 (decide ((bt200.1.size : Int) < 3))) else (solsticelaw06_WordsBegin.j0 1401 kind (wrap64 ((wrap64 (Int.tmod (IntKind.u64.wrap (a1)) (IntKind.u64.wrap (ws.length : Int)))) + t199)) a2 l3 (ws.length : Int) bt200.1 true)))) = some true := by
  have hle := h.le
  rw [u64_small (ws.length : Int) (by omega) (by omega)]
  obtain ⟨i, ei, hi, _⟩ := tmod_range a1 (ws.length : Int) (by omega) (by omega)
  rw [ei, h.fi]
  simp only [Option.bind_some]
  rw [h.name i (by omega)]
  simp only [Option.bind_some, if_true]
  obtain ⟨hs3, hs10, _⟩ := h.word i (by omega)
  rw [decide_eq_false (by omega), solsticelaw06_WordsBegin.j0]
  rw [if_neg (by decide), u64_small (((ws.getD i ByteArray.empty).size : Nat) : Int) (by omega) (by omega), if_neg (by omega)]
  obtain ⟨n, en, hn, _⟩ := tmod_range a2 (((ws.getD i ByteArray.empty).size : Nat) : Int) (by omega) (by omega)
  rw [en, wrap_id (x := 1 + (n : Int)) (by omega) (by omega), if_pos (by omega), if_pos (by omega)]
  rw [show (1 + (n : Int)) = ((n + 1 : Nat) : Int) by omega, Int.toNat_natCast]
  rw [if_pos (by rw [ByteArray.size_extract]; omega)]
  exact h.all l3 i (n + 1) (by omega) (by omega) (by omega) 1400 rfl
/-- WordsBegin answers true. -/
theorem pure_WordsBegin (a0 a1 a2 : Int) (l3 : List Bool) : ∃ k, solsticelaw06_WordsBegin.f k a0 a1 a2 l3 = some true := by
  refine ⟨1401, ?_⟩
  unfold solsticelaw06_WordsBegin.f
  obtain ⟨j, ej, hj, ej2⟩ := tmod_range a0 4 (by decide) (by decide)
  rw [ej, wrap_id (x := 1 + (j : Int)) (by omega) (by omega)]
  simp only [Option.bind_some]
  have hc : j = 0 ∨ j = 1 ∨ j = 2 ∨ j = 3 := by omega
  rcases hc with rfl | rfl | rfl | rfl
  · exact kdA.fin a1 a2 l3 (by decide)
  · exact kdB.fin a1 a2 l3 (by decide)
  · exact kdC.fin a1 a2 l3 (by decide)
  · exact kdD.fin a1 a2 l3 (by decide)
end Go.Proofs.YtijekkoifhmdlaaDoor.X
