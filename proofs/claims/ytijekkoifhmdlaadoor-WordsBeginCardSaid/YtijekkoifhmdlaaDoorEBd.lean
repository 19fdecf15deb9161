import Derived.Test.YtijekkoifhmdlaaDoorX
import Derived.Lib.ConvBytes
namespace Go.Proofs.YtijekkoifhmdlaaDoor.X
open Go.RowKit Go.Proofs.YtijekkoifhmdlaaDoorW.PrintWords Go.Proofs.YtijekkoifhmdlaaDoorW.PrintLast Go.Proofs.YtijekkoifhmdlaaDoorW.PrintMore
set_option linter.unusedVariables false
set_option linter.unusedSimpArgs false
namespace Bd
/-- A row of bytes of the call's own, whatever mark its block bears behind its cells. -/
def R (e : Nat) (w : World) (base : Nat) (ok : Nat → Prop) (v : Value) (xs : List Int) : Prop :=
  ∃ (g cap : Nat) (cur : Array Value) (fz : Nat × Nat), v = .slice (some ⟨g, 0, none⟩) xs.length cap ∧ base ≤ g ∧ w.heap[g]? = some (.cells cur e fz) ∧ cur.size ≤ fz.1 ∧ xs.length ≤ cap ∧ xs.length ≤ 9223372036854775807 ∧ ∀ (j : Nat) (x : Int), xs[j]? = some x → cur[j]? = some (Value.int .u8 x)
section
variable {e : Nat} {w w1 : World} {base : Nat} {ok : Nat → Prop} {v : Value} {xs : List Int}
theorem R_move (h : R e w base ok v xs) (hm : ∀ k, k < w.heap.size → w1.heap[k]? = w.heap[k]?) : R e w1 base ok v xs := by
  obtain ⟨g, cap, cur, fz, h1, h2, h3, h4⟩ := h
  exact ⟨g, cap, cur, fz, h1, h2, (hm g (Array.getElem?_eq_some_iff.mp h3).1).trans h3, h4⟩
theorem R_below (h : R e w base ok v xs) (hb : Below w.heap.size w w1) : R e w1 base ok v xs := R_move h (fun k hk => hb.block k hk)
theorem R_alloc (h : R e w base ok v xs) (o : Obj) : R e (w.alloc o) base ok v xs := R_below h (below_alloc (Below.refl _ _) o)
theorem R_drew (h : R e w base ok v xs) : R e w.drew base ok v xs := R_below h (below_drew (Below.refl _ _))
theorem R_drewN (h : R e w base ok v xs) (m : Nat) : R e (w.drewN m) base ok v xs := R_below h (pw_below_drewN (Below.refl _ _) m)
theorem R_at {n : Nat} (hq : w.drewN n = w1) (h : R e w base ok v xs) : R e w1 base ok v xs := hq ▸ R_drewN h n
theorem R_lower {base' : Nat} (h : R e w base ok v xs) (hb : base' ≤ base) : R e w base' ok v xs := by
  obtain ⟨g, cap, cur, fz, h1, h2, h3⟩ := h
  exact ⟨g, cap, cur, fz, h1, Nat.le_trans hb h2, h3⟩
theorem R_slice (h : R e w base ok v xs) : ∃ A c, v = .slice A xs.length c := by
  obtain ⟨g, cap, cur, fz, h1, _⟩ := h
  exact ⟨_, _, h1⟩
theorem R_cell0 (h : R e w base ok v xs) {g cap n : Nat} (hv : v = .slice (some ⟨g, 0, none⟩) n cap) : xs.length = n ∧ n ≤ cap ∧ ∀ (j : Nat) (x : Int), xs[j]? = some x → w.cell? ⟨g, j, none⟩ = some (.int .u8 x) ∧ w.frozen? ⟨g, j, none⟩ = false := by
  obtain ⟨g', cap', cur, fz, h1, h2, h3, h4, h5, h6, h7⟩ := h
  rw [h1] at hv
  injection hv with e1 e2 e3
  injection e1 with e1
  injection e1 with e1
  subst e1 e2 e3
  refine ⟨rfl, h5, fun j x hj => ?_⟩
  have hc := h7 j x hj
  have hs := (Array.getElem?_eq_some_iff.mp hc).1
  constructor
  · simp [World.cell?, h3, hc]
  · simp only [World.frozen?, h3]
    have : ¬ fz.1 ≤ j := by omega
    simp [this]
theorem R_reads' {A : Option Addr} {n c : Nat} (h : R e w base ok (.slice A n c) xs) : n = xs.length ∧ n ≤ c ∧ (Kd.int .u8).C w A xs.length xs := by
  obtain ⟨g, cap, h1⟩ : ∃ g cap, (Value.slice A n c) = .slice (some ⟨g, 0, none⟩) xs.length cap := by
    obtain ⟨g, cap, cur, fz, h1, _⟩ := h
    exact ⟨g, cap, h1⟩
  obtain ⟨_, h3, h4⟩ := R_cell0 h h1
  have hl : xs.length ≤ 9223372036854775807 := by obtain ⟨g, cap, cur, fz, _, _, _, _, _, h6, _⟩ := h; exact h6
  injection h1 with e1 e2 e3
  subst e1 e2 e3
  refine ⟨rfl, h3, rfl, hl, fun _ => ⟨_, rfl, fun j p hj => ⟨[.int .u8 p], rfl, rfl, fun i u hu => ?_⟩⟩⟩
  cases i with
  | zero =>
    simp only [List.getElem?_cons_zero, Option.some.injEq] at hu
    subst hu
    have ha : (⟨g, 0, none⟩ : Addr).add (j * (Kd.int .u8).sz + 0) = ⟨g, j, none⟩ := by
      show (⟨g, 0, none⟩ : Addr).add (j * 1 + 0) = _
      unfold Addr.add; split <;> simp_all
    rw [ha]
    exact (h4 j p hj).1
  | succ i => simp at hu
theorem R_form (h : R e w base ok v xs) (hp : 0 < xs.length) : ∃ g cap, v = .slice (some ⟨g, 0, none⟩) xs.length cap ∧ base ≤ g ∧ g < w.heap.size ∧ ∃ (cells : Array Value), ∃ fz : Nat × Nat, w.heap[g]? = some (.cells cells e fz) := by
  obtain ⟨g, cap, cur, fz, h1, h2, h3, _⟩ := h
  exact ⟨g, cap, h1, h2, (Array.getElem?_eq_some_iff.mp h3).1, cur, fz, h3⟩
theorem R_celln {g n cap : Nat} (d : Int) (h : R e w base ok (.slice (some ⟨g, 0, none⟩) n cap) xs) (i : Int) (h0 : 0 ≤ i) (hi : i < n) : w.cell? ⟨g, i.toNat, none⟩ = some (.int .u8 (rd xs i)) ∧ w.frozen? ⟨g, i.toNat, none⟩ = false := by
  obtain ⟨h1, _, h3⟩ := R_cell0 h rfl
  refine h3 i.toNat _ ?_
  have hl : i.toNat < xs.length := by omega
  rw [List.getElem?_eq_getElem hl, rd, List.getD_eq_getElem?_getD, List.getElem?_eq_getElem hl]
  rfl
theorem grownBy_set_ (W : World) (b j : Nat) (v : Value) : W.grownBy (W.setCell ⟨b, j, none⟩ v) (some b) := by
  refine ⟨rfl, rfl, rfl, by simp [World.setCell], fun k hk hne => ?_⟩
  exact Below.heap_setCell W ⟨b, j, none⟩ v k (fun e => hne (by rw [e]))
theorem R_putg {g n cap : Nat} (h : R e w base ok (.slice (some ⟨g, 0, none⟩) n cap) xs) (i : Int) (x : Int) : R e (w.setCell ⟨g, i.toNat, none⟩ (.int .u8 x)) base ok (.slice (some ⟨g, 0, none⟩) n cap) (xs.set i.toNat x) ∧ w.grownBy (w.setCell ⟨g, i.toNat, none⟩ (.int .u8 x)) (some g) := by
  obtain ⟨g', cap', cur, fz, h1, h2, h3, h4, h5, h6, h7⟩ := h
  injection h1 with e1 e2 e3
  injection e1 with e1
  injection e1 with e1
  subst e1 e2 e3
  constructor
  · refine ⟨g, cap, cur.setIfInBounds i.toNat (.int .u8 x), fz, by rw [List.length_set], h2, ?_, by simpa using h4, by rw [List.length_set]; exact h5, by rw [List.length_set]; exact h6, fun j y hj => ?_⟩
    · simp only [World.setCell]
      rw [Array.getElem?_modify]
      simp [h3]
    · rw [Array.getElem?_setIfInBounds]
      rw [List.getElem?_set] at hj
      by_cases hij : i.toNat = j
      · subst hij
        rw [if_pos rfl] at hj ⊢
        split at hj
        · rename_i hl
          have hlt : i.toNat < cur.size := by
            have := h7 i.toNat _ (List.getElem?_eq_getElem hl)
            exact (Array.getElem?_eq_some_iff.mp this).1
          rw [if_pos hlt]
          simpa using hj
        · cases hj
      · rw [if_neg hij] at hj ⊢
        exact h7 j y hj
  · exact grownBy_set_ w g i.toNat _
theorem R_string {P : Program} {src dst e5 : TypeId} (hs : P.underlying src = some (.slice e5)) (he : P.underlying e5 = some (.int .u8)) (hd : P.underlying dst = some .string)
    (h : R e w base ok v xs) : (convert src dst v).run P w = .ok (.string (strOfNums xs)) w := by
  obtain ⟨g, cap, cur, fz, h1, _⟩ := id h
  obtain ⟨_, _, h3⟩ := R_cell0 h h1
  subst h1
  refine run_convert_bytes_arg w src e5 hs he g 0 xs.length cap xs rfl (fun i hi => ?_) dst hd
  have := (h3 i _ (List.getElem?_eq_getElem hi)).1
  rw [Nat.zero_add, List.getD_eq_getElem?_getD, List.getElem?_eq_getElem hi]
  exact this
end
section
variable {P : Program} {ops : Array Oper} {rest : List Oper} {o : Oper} {a : Act} {Q : Exit → Act → World → Prop}
/-- '[]byte(s)'. -/
theorem event {W : World} (hgd : o.guard = none) {N : Tmp} (_hd : o.dst = some N) (src dst e : TypeId) (x : Operand) (s : ByteArray) (ho : o.op = .convert src dst x) (hx : a.eval x = .string s)
    (hs : P.underlying src = some .string) (hd : P.underlying dst = some (.slice e)) (he : P.underlying e = some (.int .u8)) (hl : s.size < 140737488355328)
    (h : ∀ v w1, R e w1 W.heap.size (fun _ => True) v (bytesOf s) → Below W.heap.size W w1 → wpList P ops Q rest (a.put o.dst v) w1) : wpList P ops Q (o :: rest) a W := by
  refine Kd.event_run (v := .slice (some ⟨W.heap.size, 0, none⟩) s.size (grownCap W s.size 0 e)) (w1 := Lib.bytesWorld W e s) hgd ?_ (h _ _ ?_ ?_)
  · unfold execOp
    rw [ho]
    simp only [hx]
    have := Lib.run_convert_string_bytes W src dst e s hs hd he
    simp [Result.andThen, this]
  · have hb := bytesOf_length s
    refine ⟨W.heap.size, _, _, _, by rw [hb], Nat.le_refl _, Lib.bytesWorld_at_new W e s, Nat.le_refl _, ?_, by omega, fun j x hj => ?_⟩
    · rw [hb]; exact grownCap_ge W s.size 0 e
    · have hl2 := (List.getElem?_eq_some_iff.mp hj).1
      rw [hb] at hl2
      have hc := Lib.bytesWorld_cell W e s j hl2
      have : (bytesOf s)[j]? = some (((s.data.toList.getD j 0).toNat : Nat) : Int) := by
        simp only [bytesOf, List.getElem?_map]
        rw [List.getD_eq_getElem?_getD, List.getElem?_eq_getElem (by simpa using hl2)]
        rfl
      rw [this] at hj
      have hj := Option.some.inj hj
      rw [← hj]
      unfold World.cell? at hc
      rw [Lib.bytesWorld_at_new] at hc
      simpa using hc
  · refine ⟨rfl, rfl, rfl, by rw [Lib.bytesWorld_size]; omega, fun k hk => Lib.bytesWorld_at_old W e s k hk⟩
end
end Bd
end Go.Proofs.YtijekkoifhmdlaaDoor.X
