-- written by wip/tools/xprint.py for this seat; Lean checks it
import Derived.Test.YtijekkoifhmdlaaDoorX
import Derived.Test.YtijekkoifhmdlaaDoorEBd
import Derived.Test.YtijekkoifhmdlaaDoorF10
import Derived.Test.YtijekkoifhmdlaaDoorF11
import Derived.Test.YtijekkoifhmdlaaDoorF5
import Derived.Test.YtijekkoifhmdlaaDoorF7
import Derived.Test.YtijekkoifhmdlaaDoorF8
namespace Go.Proofs.YtijekkoifhmdlaaDoor.X
open Go.RowKit Go.Proofs.YtijekkoifhmdlaaDoorW.PrintWords Go.Proofs.YtijekkoifhmdlaaDoorW.PrintLast Go.Proofs.YtijekkoifhmdlaaDoorW.PrintMore
attribute [local go_sem] max2_int min2_int max_two min_two max_three min_three max_four min_four
set_option linter.unusedVariables false
set_option linter.unusedSimpArgs false

/-! ### solsticelaw06_WordsBegin: function 4 -/
mutual
def solsticelaw06_WordsBegin.j0 : Nat → Int → Int → Int → List Bool → Int → ByteArray → Bool → Option (Bool)
 | 0, _, _, _, _, _, _, _ => none
 | k + 1, x0, x1, x2, x3, x9, x10, x55 => if x55 = true then (none) else (if (IntKind.u64.wrap ((x10.size : Int))) = 0 then (none) else (if 0 ≤ (wrap64 (1 + (wrap64 (Int.tmod (IntKind.u64.wrap (x2)) (IntKind.u64.wrap ((x10.size : Int))))))) then (if (wrap64 (1 + (wrap64 (Int.tmod (IntKind.u64.wrap (x2)) (IntKind.u64.wrap ((x10.size : Int))))))) ≤ (x10.size : Int) then (if 0 + (x10.extract 0 ((wrap64 (1 + (wrap64 (Int.tmod (IntKind.u64.wrap (x2)) (IntKind.u64.wrap ((x10.size : Int))))))) : Int).toNat).size < 140737488355328 then (solsticelaw06_WordsBegin.l0 k x0 x1 (wrap64 (1 + (wrap64 (Int.tmod (IntKind.u64.wrap (x2)) (IntKind.u64.wrap ((x10.size : Int))))))) x3 x9 x10 (bytesOf (x10.extract 0 ((wrap64 (1 + (wrap64 (Int.tmod (IntKind.u64.wrap (x2)) (IntKind.u64.wrap ((x10.size : Int))))))) : Int).toNat)) 0) else (none)) else (none)) else (none)))
def solsticelaw06_WordsBegin.l0 : Nat → Int → Int → Int → List Bool → Int → ByteArray → List Int → Int → Option (Bool)
 | 0, _, _, _, _, _, _, _, _ => none
 | k + 1, x0, x1, x2, x3, x9, x10, x12, x13 => if x13 < (x12.length : Int) then (if x13 < (x3.length : Int) then (if 0 ≤ x13 then (if rdOf false x3 x13 = true then (if (rd x12 x13) ≥ 97 then (solsticelaw06_WordsBegin.j2 k x0 x1 x2 x3 x9 x10 x12 x13 (decide ((rd x12 x13) ≤ 122))) else (solsticelaw06_WordsBegin.j2 k x0 x1 x2 x3 x9 x10 x12 x13 false)) else (solsticelaw06_WordsBegin.j2 k x0 x1 x2 x3 x9 x10 x12 x13 false)) else (none)) else (solsticelaw06_WordsBegin.j2 k x0 x1 x2 x3 x9 x10 x12 x13 false)) else (solsticelaw06_WordsBegin.l1 k x0 x1 x2 x9 x10 x12 0 0)
def solsticelaw06_WordsBegin.j2 : Nat → Int → Int → Int → List Bool → Int → ByteArray → List Int → Int → Bool → Option (Bool)
 | 0, _, _, _, _, _, _, _, _, _ => none
 | k + 1, x0, x1, x2, x3, x9, x10, x12, x13, x97 => if x97 = true then (if 0 ≤ x13 then (if x13 < (x12.length : Int) then (solsticelaw06_WordsBegin.l0 k x0 x1 x2 x3 x9 x10 (x12.set (x13 : Int).toNat (((rd x12 x13) - 32) % 256)) (wrap64 (x13 + 1))) else (none)) else (none)) else (if x13 < (x3.length : Int) then (if 0 ≤ x13 then (if rdOf false x3 x13 = true then (solsticelaw06_WordsBegin.l0 k x0 x1 x2 x3 x9 x10 x12 (wrap64 (x13 + 1))) else (if x13 < (x12.length : Int) then (if (rd x12 x13) ≥ 65 then (if (rd x12 x13) ≤ 90 then (solsticelaw06_WordsBegin.l0 k x0 x1 x2 x3 x9 x10 (x12.set (x13 : Int).toNat (((rd x12 x13) + 32) % 256)) (wrap64 (x13 + 1))) else (solsticelaw06_WordsBegin.l0 k x0 x1 x2 x3 x9 x10 x12 (wrap64 (x13 + 1)))) else (solsticelaw06_WordsBegin.l0 k x0 x1 x2 x3 x9 x10 x12 (wrap64 (x13 + 1)))) else (none))) else (none)) else (solsticelaw06_WordsBegin.l0 k x0 x1 x2 x3 x9 x10 x12 (wrap64 (x13 + 1))))
def solsticelaw06_WordsBegin.l1 : Nat → Int → Int → Int → Int → ByteArray → List Int → Int → Int → Option (Bool)
 | 0, _, _, _, _, _, _, _, _ => none
 | k + 1, x0, x1, x2, x9, x10, x12, x14, x15 => if x15 < x9 then ((solsticelaw06_first.f x0).bind fun t215 => ((words_Name.f x0 (wrap64 (x15 + t215))).bind fun bt216 => (if bt216.2 = 0 then ((solsticeref01_Begins.f k (strOfNums x12) bt216.1).bind fun t218 => (if t218 = true then (solsticelaw06_WordsBegin.l1 k x0 x1 x2 x9 x10 x12 (wrap64 (x14 + 1)) (wrap64 (x15 + 1))) else (solsticelaw06_WordsBegin.l1 k x0 x1 x2 x9 x10 x12 x14 (wrap64 (x15 + 1))))) else (none)))) else ((solsticelaw06_tell.f k x0 (strOfNums x12)).bind fun bt219 => (if x0 = 2 then (solsticelaw06_WordsBegin.j4 k x0 x1 x2 x10 x14 bt219.1 bt219.2 1 true) else (solsticelaw06_WordsBegin.j4 k x0 x1 x2 x10 x14 bt219.1 bt219.2 1 (x0 == 3))))
def solsticelaw06_WordsBegin.j4 : Nat → Int → Int → Int → ByteArray → Int → Int → Int → Int → Bool → Option (Bool)
 | 0, _, _, _, _, _, _, _, _, _ => none
 | k + 1, x0, x1, x2, x10, x14, x18, x19, x20, x173 => if x173 = true then (solsticelaw06_WordsBegin.j5 k x0 x1 x2 x10 x14 x18 x19 3) else (solsticelaw06_WordsBegin.j5 k x0 x1 x2 x10 x14 x18 x19 x20)
def solsticelaw06_WordsBegin.j5 : Nat → Int → Int → Int → ByteArray → Int → Int → Int → Int → Option (Bool)
 | 0, _, _, _, _, _, _, _, _ => none
 | k + 1, x0, x1, x2, x10, x14, x18, x19, x20 => if x10.size + 1 ≤ 9223372036854775807 then ((solsticelaw06_tell.f k x0 (x10 ++ (⟨#[120]⟩ : ByteArray))).bind fun bt221 => ((solsticelaw06_tell.f k x0 (⟨#[]⟩ : ByteArray)).bind fun bt223 => (if bt221.2 = 7 then (solsticelaw06_WordsBegin.j6 k x1 x2 x10 x14 x18 x19 x20 (bt223.2 != 7)) else (solsticelaw06_WordsBegin.j6 k x1 x2 x10 x14 x18 x19 x20 true)))) else (none)
def solsticelaw06_WordsBegin.j6 : Nat → Int → Int → ByteArray → Int → Int → Int → Int → Bool → Option (Bool)
 | 0, _, _, _, _, _, _, _, _ => none
 | k + 1, x1, x2, x10, x14, x18, x19, x20, x191 => if x191 = true then (none) else (if x2 < (x10.size : Int) then (if x2 < x20 then (solsticelaw06_WordsBegin.j7 k x1 x18 x19 true) else (solsticelaw06_WordsBegin.j7 k x1 x18 x19 (decide (x14 > 1)))) else (solsticelaw06_WordsBegin.j7 k x1 x18 x19 false))
def solsticelaw06_WordsBegin.j7 : Nat → Int → Int → Int → Bool → Option (Bool)
 | 0, _, _, _, _ => none
 | k + 1, x1, x18, x19, x204 => if x204 = true then (if x19 = 7 then (if x18 = 0 then ((solsticelaw06_wakes.f k).bind fun t225 => (some t225)) else (none)) else (none)) else (if x19 = 0 then (if x18 = x1 then ((solsticelaw06_wakes.f k).bind fun t226 => (some t226)) else (none)) else (none))
end
def solsticelaw06_WordsBegin.f (k : Nat) (a0 : Int) (a1 : Int) (a2 : Int) (l3 : List Bool) : Option (Bool) := (some (([0, 3, 12, 7, 3] : List Int) : List Int)).bind fun y195 => (if 0 ≤ (wrap64 (1 + (wrap64 (Int.tmod (IntKind.u64.wrap (a0)) 4)))) then (if (wrap64 (1 + (wrap64 (Int.tmod (IntKind.u64.wrap (a0)) 4)))) < (y195.length : Int) then (if (IntKind.u64.wrap (rd y195 (wrap64 (1 + (wrap64 (Int.tmod (IntKind.u64.wrap (a0)) 4)))))) = 0 then (none) else ((solsticelaw06_first.f (wrap64 (1 + (wrap64 (Int.tmod (IntKind.u64.wrap (a0)) 4))))).bind fun t199 => ((words_Name.f (wrap64 (1 + (wrap64 (Int.tmod (IntKind.u64.wrap (a0)) 4)))) (wrap64 ((wrap64 (Int.tmod (IntKind.u64.wrap (a1)) (IntKind.u64.wrap (rd y195 (wrap64 (1 + (wrap64 (Int.tmod (IntKind.u64.wrap (a0)) 4)))))))) + t199))).bind fun bt200 => (if bt200.2 = 0 then (solsticelaw06_WordsBegin.j0 k (wrap64 (1 + (wrap64 (Int.tmod (IntKind.u64.wrap (a0)) 4)))) (wrap64 ((wrap64 (Int.tmod (IntKind.u64.wrap (a1)) (IntKind.u64.wrap (rd y195 (wrap64 (1 + (wrap64 (Int.tmod (IntKind.u64.wrap (a0)) 4)))))))) + t199)) a2 l3 (rd y195 (wrap64 (1 + (wrap64 (Int.tmod (IntKind.u64.wrap (a0)) 4))))) bt200.1 (decide ((bt200.1.size : Int) < 3))) else (solsticelaw06_WordsBegin.j0 k (wrap64 (1 + (wrap64 (Int.tmod (IntKind.u64.wrap (a0)) 4)))) (wrap64 ((wrap64 (Int.tmod (IntKind.u64.wrap (a1)) (IntKind.u64.wrap (rd y195 (wrap64 (1 + (wrap64 (Int.tmod (IntKind.u64.wrap (a0)) 4)))))))) + t199)) a2 l3 (rd y195 (wrap64 (1 + (wrap64 (Int.tmod (IntKind.u64.wrap (a0)) 4))))) bt200.1 true))))) else (none)) else (none))
theorem solsticelaw06_WordsBegin.mono_l : ∀ k, (∀ y0 y1 y2 y3 y4 y5 y6, LeO (solsticelaw06_WordsBegin.j0 k y0 y1 y2 y3 y4 y5 y6) (solsticelaw06_WordsBegin.j0 (k + 1) y0 y1 y2 y3 y4 y5 y6)) ∧ (∀ y0 y1 y2 y3 y4 y5 y6 y7, LeO (solsticelaw06_WordsBegin.l0 k y0 y1 y2 y3 y4 y5 y6 y7) (solsticelaw06_WordsBegin.l0 (k + 1) y0 y1 y2 y3 y4 y5 y6 y7)) ∧ (∀ y0 y1 y2 y3 y4 y5 y6 y7 y8, LeO (solsticelaw06_WordsBegin.j2 k y0 y1 y2 y3 y4 y5 y6 y7 y8) (solsticelaw06_WordsBegin.j2 (k + 1) y0 y1 y2 y3 y4 y5 y6 y7 y8)) ∧ (∀ y0 y1 y2 y3 y4 y5 y6 y7, LeO (solsticelaw06_WordsBegin.l1 k y0 y1 y2 y3 y4 y5 y6 y7) (solsticelaw06_WordsBegin.l1 (k + 1) y0 y1 y2 y3 y4 y5 y6 y7)) ∧ (∀ y0 y1 y2 y3 y4 y5 y6 y7 y8, LeO (solsticelaw06_WordsBegin.j4 k y0 y1 y2 y3 y4 y5 y6 y7 y8) (solsticelaw06_WordsBegin.j4 (k + 1) y0 y1 y2 y3 y4 y5 y6 y7 y8)) ∧ (∀ y0 y1 y2 y3 y4 y5 y6 y7, LeO (solsticelaw06_WordsBegin.j5 k y0 y1 y2 y3 y4 y5 y6 y7) (solsticelaw06_WordsBegin.j5 (k + 1) y0 y1 y2 y3 y4 y5 y6 y7)) ∧ (∀ y0 y1 y2 y3 y4 y5 y6 y7, LeO (solsticelaw06_WordsBegin.j6 k y0 y1 y2 y3 y4 y5 y6 y7) (solsticelaw06_WordsBegin.j6 (k + 1) y0 y1 y2 y3 y4 y5 y6 y7)) ∧ (∀ y0 y1 y2 y3, LeO (solsticelaw06_WordsBegin.j7 k y0 y1 y2 y3) (solsticelaw06_WordsBegin.j7 (k + 1) y0 y1 y2 y3))
 | 0 => ⟨fun _ _ _ _ _ _ _ r h => by simp [solsticelaw06_WordsBegin.j0] at h, fun _ _ _ _ _ _ _ _ r h => by simp [solsticelaw06_WordsBegin.l0] at h, fun _ _ _ _ _ _ _ _ _ r h => by simp [solsticelaw06_WordsBegin.j2] at h, fun _ _ _ _ _ _ _ _ r h => by simp [solsticelaw06_WordsBegin.l1] at h, fun _ _ _ _ _ _ _ _ _ r h => by simp [solsticelaw06_WordsBegin.j4] at h, fun _ _ _ _ _ _ _ _ r h => by simp [solsticelaw06_WordsBegin.j5] at h, fun _ _ _ _ _ _ _ _ r h => by simp [solsticelaw06_WordsBegin.j6] at h, fun _ _ _ _ r h => by simp [solsticelaw06_WordsBegin.j7] at h⟩
 | k + 1 => by
  obtain ⟨ih0, ih1, ih2, ih3, ih4, ih5, ih6, ih7⟩ := solsticelaw06_WordsBegin.mono_l k
  refine ⟨?_, ?_, ?_, ?_, ?_, ?_, ?_, ?_⟩
  ·intro y0 y1 y2 y3 y4 y5 y6
   unfold solsticelaw06_WordsBegin.j0
   repeat' first
   | (with_reducible exact ih0 _ _ _ _ _ _ _)
   | (with_reducible exact ih1 _ _ _ _ _ _ _ _)
   | (with_reducible exact ih2 _ _ _ _ _ _ _ _ _)
   | (with_reducible exact ih3 _ _ _ _ _ _ _ _)
   | (with_reducible exact ih4 _ _ _ _ _ _ _ _ _)
   | (with_reducible exact ih5 _ _ _ _ _ _ _ _)
   | (with_reducible exact ih6 _ _ _ _ _ _ _ _)
   | (with_reducible exact ih7 _ _ _ _)
   | (with_reducible exact solsticelaw06_tell.mono _ _ _)
   | (with_reducible exact solsticelaw06_wakes.mono _)
   | (with_reducible exact solsticeref01_Begins.mono _ _ _)
   | (with_reducible exact LeO.refl _)
   | (with_reducible exact LeO.none _)
   | (with_reducible refine LeO.ite ?_ ?_)
   | (with_reducible refine LeO.bind ?_ (fun _ => ?_))
   | exact ih0 _ _ _ _ _ _ _
   | exact ih1 _ _ _ _ _ _ _ _
   | exact ih2 _ _ _ _ _ _ _ _ _
   | exact ih3 _ _ _ _ _ _ _ _
   | exact ih4 _ _ _ _ _ _ _ _ _
   | exact ih5 _ _ _ _ _ _ _ _
   | exact ih6 _ _ _ _ _ _ _ _
   | exact ih7 _ _ _ _
   | exact solsticelaw06_tell.mono _ _ _
   | exact solsticelaw06_wakes.mono _
   | exact solsticeref01_Begins.mono _ _ _
   | exact LeO.none _
   | refine LeO.ite ?_ ?_
   | refine LeO.bind ?_ (fun _ => ?_)
  ·intro y0 y1 y2 y3 y4 y5 y6 y7
   unfold solsticelaw06_WordsBegin.l0
   repeat' first
   | (with_reducible exact ih0 _ _ _ _ _ _ _)
   | (with_reducible exact ih1 _ _ _ _ _ _ _ _)
   | (with_reducible exact ih2 _ _ _ _ _ _ _ _ _)
   | (with_reducible exact ih3 _ _ _ _ _ _ _ _)
   | (with_reducible exact ih4 _ _ _ _ _ _ _ _ _)
   | (with_reducible exact ih5 _ _ _ _ _ _ _ _)
   | (with_reducible exact ih6 _ _ _ _ _ _ _ _)
   | (with_reducible exact ih7 _ _ _ _)
   | (with_reducible exact solsticelaw06_tell.mono _ _ _)
   | (with_reducible exact solsticelaw06_wakes.mono _)
   | (with_reducible exact solsticeref01_Begins.mono _ _ _)
   | (with_reducible exact LeO.refl _)
   | (with_reducible exact LeO.none _)
   | (with_reducible refine LeO.ite ?_ ?_)
   | (with_reducible refine LeO.bind ?_ (fun _ => ?_))
   | exact ih0 _ _ _ _ _ _ _
   | exact ih1 _ _ _ _ _ _ _ _
   | exact ih2 _ _ _ _ _ _ _ _ _
   | exact ih3 _ _ _ _ _ _ _ _
   | exact ih4 _ _ _ _ _ _ _ _ _
   | exact ih5 _ _ _ _ _ _ _ _
   | exact ih6 _ _ _ _ _ _ _ _
   | exact ih7 _ _ _ _
   | exact solsticelaw06_tell.mono _ _ _
   | exact solsticelaw06_wakes.mono _
   | exact solsticeref01_Begins.mono _ _ _
   | exact LeO.none _
   | refine LeO.ite ?_ ?_
   | refine LeO.bind ?_ (fun _ => ?_)
  ·intro y0 y1 y2 y3 y4 y5 y6 y7 y8
   unfold solsticelaw06_WordsBegin.j2
   repeat' first
   | (with_reducible exact ih0 _ _ _ _ _ _ _)
   | (with_reducible exact ih1 _ _ _ _ _ _ _ _)
   | (with_reducible exact ih2 _ _ _ _ _ _ _ _ _)
   | (with_reducible exact ih3 _ _ _ _ _ _ _ _)
   | (with_reducible exact ih4 _ _ _ _ _ _ _ _ _)
   | (with_reducible exact ih5 _ _ _ _ _ _ _ _)
   | (with_reducible exact ih6 _ _ _ _ _ _ _ _)
   | (with_reducible exact ih7 _ _ _ _)
   | (with_reducible exact solsticelaw06_tell.mono _ _ _)
   | (with_reducible exact solsticelaw06_wakes.mono _)
   | (with_reducible exact solsticeref01_Begins.mono _ _ _)
   | (with_reducible exact LeO.refl _)
   | (with_reducible exact LeO.none _)
   | (with_reducible refine LeO.ite ?_ ?_)
   | (with_reducible refine LeO.bind ?_ (fun _ => ?_))
   | exact ih0 _ _ _ _ _ _ _
   | exact ih1 _ _ _ _ _ _ _ _
   | exact ih2 _ _ _ _ _ _ _ _ _
   | exact ih3 _ _ _ _ _ _ _ _
   | exact ih4 _ _ _ _ _ _ _ _ _
   | exact ih5 _ _ _ _ _ _ _ _
   | exact ih6 _ _ _ _ _ _ _ _
   | exact ih7 _ _ _ _
   | exact solsticelaw06_tell.mono _ _ _
   | exact solsticelaw06_wakes.mono _
   | exact solsticeref01_Begins.mono _ _ _
   | exact LeO.none _
   | refine LeO.ite ?_ ?_
   | refine LeO.bind ?_ (fun _ => ?_)
  ·intro y0 y1 y2 y3 y4 y5 y6 y7
   unfold solsticelaw06_WordsBegin.l1
   repeat' first
   | (with_reducible exact ih0 _ _ _ _ _ _ _)
   | (with_reducible exact ih1 _ _ _ _ _ _ _ _)
   | (with_reducible exact ih2 _ _ _ _ _ _ _ _ _)
   | (with_reducible exact ih3 _ _ _ _ _ _ _ _)
   | (with_reducible exact ih4 _ _ _ _ _ _ _ _ _)
   | (with_reducible exact ih5 _ _ _ _ _ _ _ _)
   | (with_reducible exact ih6 _ _ _ _ _ _ _ _)
   | (with_reducible exact ih7 _ _ _ _)
   | (with_reducible exact solsticelaw06_tell.mono _ _ _)
   | (with_reducible exact solsticelaw06_wakes.mono _)
   | (with_reducible exact solsticeref01_Begins.mono _ _ _)
   | (with_reducible exact LeO.refl _)
   | (with_reducible exact LeO.none _)
   | (with_reducible refine LeO.ite ?_ ?_)
   | (with_reducible refine LeO.bind ?_ (fun _ => ?_))
   | exact ih0 _ _ _ _ _ _ _
   | exact ih1 _ _ _ _ _ _ _ _
   | exact ih2 _ _ _ _ _ _ _ _ _
   | exact ih3 _ _ _ _ _ _ _ _
   | exact ih4 _ _ _ _ _ _ _ _ _
   | exact ih5 _ _ _ _ _ _ _ _
   | exact ih6 _ _ _ _ _ _ _ _
   | exact ih7 _ _ _ _
   | exact solsticelaw06_tell.mono _ _ _
   | exact solsticelaw06_wakes.mono _
   | exact solsticeref01_Begins.mono _ _ _
   | exact LeO.none _
   | refine LeO.ite ?_ ?_
   | refine LeO.bind ?_ (fun _ => ?_)
  ·intro y0 y1 y2 y3 y4 y5 y6 y7 y8
   unfold solsticelaw06_WordsBegin.j4
   repeat' first
   | (with_reducible exact ih0 _ _ _ _ _ _ _)
   | (with_reducible exact ih1 _ _ _ _ _ _ _ _)
   | (with_reducible exact ih2 _ _ _ _ _ _ _ _ _)
   | (with_reducible exact ih3 _ _ _ _ _ _ _ _)
   | (with_reducible exact ih4 _ _ _ _ _ _ _ _ _)
   | (with_reducible exact ih5 _ _ _ _ _ _ _ _)
   | (with_reducible exact ih6 _ _ _ _ _ _ _ _)
   | (with_reducible exact ih7 _ _ _ _)
   | (with_reducible exact solsticelaw06_tell.mono _ _ _)
   | (with_reducible exact solsticelaw06_wakes.mono _)
   | (with_reducible exact solsticeref01_Begins.mono _ _ _)
   | (with_reducible exact LeO.refl _)
   | (with_reducible exact LeO.none _)
   | (with_reducible refine LeO.ite ?_ ?_)
   | (with_reducible refine LeO.bind ?_ (fun _ => ?_))
   | exact ih0 _ _ _ _ _ _ _
   | exact ih1 _ _ _ _ _ _ _ _
   | exact ih2 _ _ _ _ _ _ _ _ _
   | exact ih3 _ _ _ _ _ _ _ _
   | exact ih4 _ _ _ _ _ _ _ _ _
   | exact ih5 _ _ _ _ _ _ _ _
   | exact ih6 _ _ _ _ _ _ _ _
   | exact ih7 _ _ _ _
   | exact solsticelaw06_tell.mono _ _ _
   | exact solsticelaw06_wakes.mono _
   | exact solsticeref01_Begins.mono _ _ _
   | exact LeO.none _
   | refine LeO.ite ?_ ?_
   | refine LeO.bind ?_ (fun _ => ?_)
  ·intro y0 y1 y2 y3 y4 y5 y6 y7
   unfold solsticelaw06_WordsBegin.j5
   repeat' first
   | (with_reducible exact ih0 _ _ _ _ _ _ _)
   | (with_reducible exact ih1 _ _ _ _ _ _ _ _)
   | (with_reducible exact ih2 _ _ _ _ _ _ _ _ _)
   | (with_reducible exact ih3 _ _ _ _ _ _ _ _)
   | (with_reducible exact ih4 _ _ _ _ _ _ _ _ _)
   | (with_reducible exact ih5 _ _ _ _ _ _ _ _)
   | (with_reducible exact ih6 _ _ _ _ _ _ _ _)
   | (with_reducible exact ih7 _ _ _ _)
   | (with_reducible exact solsticelaw06_tell.mono _ _ _)
   | (with_reducible exact solsticelaw06_wakes.mono _)
   | (with_reducible exact solsticeref01_Begins.mono _ _ _)
   | (with_reducible exact LeO.refl _)
   | (with_reducible exact LeO.none _)
   | (with_reducible refine LeO.ite ?_ ?_)
   | (with_reducible refine LeO.bind ?_ (fun _ => ?_))
   | exact ih0 _ _ _ _ _ _ _
   | exact ih1 _ _ _ _ _ _ _ _
   | exact ih2 _ _ _ _ _ _ _ _ _
   | exact ih3 _ _ _ _ _ _ _ _
   | exact ih4 _ _ _ _ _ _ _ _ _
   | exact ih5 _ _ _ _ _ _ _ _
   | exact ih6 _ _ _ _ _ _ _ _
   | exact ih7 _ _ _ _
   | exact solsticelaw06_tell.mono _ _ _
   | exact solsticelaw06_wakes.mono _
   | exact solsticeref01_Begins.mono _ _ _
   | exact LeO.none _
   | refine LeO.ite ?_ ?_
   | refine LeO.bind ?_ (fun _ => ?_)
  ·intro y0 y1 y2 y3 y4 y5 y6 y7
   unfold solsticelaw06_WordsBegin.j6
   repeat' first
   | (with_reducible exact ih0 _ _ _ _ _ _ _)
   | (with_reducible exact ih1 _ _ _ _ _ _ _ _)
   | (with_reducible exact ih2 _ _ _ _ _ _ _ _ _)
   | (with_reducible exact ih3 _ _ _ _ _ _ _ _)
   | (with_reducible exact ih4 _ _ _ _ _ _ _ _ _)
   | (with_reducible exact ih5 _ _ _ _ _ _ _ _)
   | (with_reducible exact ih6 _ _ _ _ _ _ _ _)
   | (with_reducible exact ih7 _ _ _ _)
   | (with_reducible exact solsticelaw06_tell.mono _ _ _)
   | (with_reducible exact solsticelaw06_wakes.mono _)
   | (with_reducible exact solsticeref01_Begins.mono _ _ _)
   | (with_reducible exact LeO.refl _)
   | (with_reducible exact LeO.none _)
   | (with_reducible refine LeO.ite ?_ ?_)
   | (with_reducible refine LeO.bind ?_ (fun _ => ?_))
   | exact ih0 _ _ _ _ _ _ _
   | exact ih1 _ _ _ _ _ _ _ _
   | exact ih2 _ _ _ _ _ _ _ _ _
   | exact ih3 _ _ _ _ _ _ _ _
   | exact ih4 _ _ _ _ _ _ _ _ _
   | exact ih5 _ _ _ _ _ _ _ _
   | exact ih6 _ _ _ _ _ _ _ _
   | exact ih7 _ _ _ _
   | exact solsticelaw06_tell.mono _ _ _
   | exact solsticelaw06_wakes.mono _
   | exact solsticeref01_Begins.mono _ _ _
   | exact LeO.none _
   | refine LeO.ite ?_ ?_
   | refine LeO.bind ?_ (fun _ => ?_)
  ·intro y0 y1 y2 y3
   unfold solsticelaw06_WordsBegin.j7
   repeat' first
   | (with_reducible exact ih0 _ _ _ _ _ _ _)
   | (with_reducible exact ih1 _ _ _ _ _ _ _ _)
   | (with_reducible exact ih2 _ _ _ _ _ _ _ _ _)
   | (with_reducible exact ih3 _ _ _ _ _ _ _ _)
   | (with_reducible exact ih4 _ _ _ _ _ _ _ _ _)
   | (with_reducible exact ih5 _ _ _ _ _ _ _ _)
   | (with_reducible exact ih6 _ _ _ _ _ _ _ _)
   | (with_reducible exact ih7 _ _ _ _)
   | (with_reducible exact solsticelaw06_tell.mono _ _ _)
   | (with_reducible exact solsticelaw06_wakes.mono _)
   | (with_reducible exact solsticeref01_Begins.mono _ _ _)
   | (with_reducible exact LeO.refl _)
   | (with_reducible exact LeO.none _)
   | (with_reducible refine LeO.ite ?_ ?_)
   | (with_reducible refine LeO.bind ?_ (fun _ => ?_))
   | exact ih0 _ _ _ _ _ _ _
   | exact ih1 _ _ _ _ _ _ _ _
   | exact ih2 _ _ _ _ _ _ _ _ _
   | exact ih3 _ _ _ _ _ _ _ _
   | exact ih4 _ _ _ _ _ _ _ _ _
   | exact ih5 _ _ _ _ _ _ _ _
   | exact ih6 _ _ _ _ _ _ _ _
   | exact ih7 _ _ _ _
   | exact solsticelaw06_tell.mono _ _ _
   | exact solsticelaw06_wakes.mono _
   | exact solsticeref01_Begins.mono _ _ _
   | exact LeO.none _
   | refine LeO.ite ?_ ?_
   | refine LeO.bind ?_ (fun _ => ?_)
theorem solsticelaw06_WordsBegin.mono : ∀ a0 a1 a2 a3 k, LeO (solsticelaw06_WordsBegin.f k a0 a1 a2 a3) (solsticelaw06_WordsBegin.f (k + 1) a0 a1 a2 a3) := by
 intro a0 a1 a2 a3 k
 obtain ⟨ih0, ih1, ih2, ih3, ih4, ih5, ih6, ih7⟩ := solsticelaw06_WordsBegin.mono_l k
 unfold solsticelaw06_WordsBegin.f
 repeat' first
   | (with_reducible exact ih0 _ _ _ _ _ _ _)
   | (with_reducible exact ih1 _ _ _ _ _ _ _ _)
   | (with_reducible exact ih2 _ _ _ _ _ _ _ _ _)
   | (with_reducible exact ih3 _ _ _ _ _ _ _ _)
   | (with_reducible exact ih4 _ _ _ _ _ _ _ _ _)
   | (with_reducible exact ih5 _ _ _ _ _ _ _ _)
   | (with_reducible exact ih6 _ _ _ _ _ _ _ _)
   | (with_reducible exact ih7 _ _ _ _)
   | (with_reducible exact solsticelaw06_tell.mono _ _ _)
   | (with_reducible exact solsticelaw06_wakes.mono _)
   | (with_reducible exact solsticeref01_Begins.mono _ _ _)
   | (with_reducible exact LeO.refl _)
   | (with_reducible exact LeO.none _)
   | (with_reducible refine LeO.ite ?_ ?_)
   | (with_reducible refine LeO.bind ?_ (fun _ => ?_))
   | exact ih0 _ _ _ _ _ _ _
   | exact ih1 _ _ _ _ _ _ _ _
   | exact ih2 _ _ _ _ _ _ _ _ _
   | exact ih3 _ _ _ _ _ _ _ _
   | exact ih4 _ _ _ _ _ _ _ _ _
   | exact ih5 _ _ _ _ _ _ _ _
   | exact ih6 _ _ _ _ _ _ _ _
   | exact ih7 _ _ _ _
   | exact solsticelaw06_tell.mono _ _ _
   | exact solsticelaw06_wakes.mono _
   | exact solsticeref01_Begins.mono _ _ _
   | exact LeO.none _
   | refine LeO.ite ?_ ?_
   | refine LeO.bind ?_ (fun _ => ?_)
set_option maxHeartbeats 8000000 in
set_option maxRecDepth 100000 in
theorem solsticelaw06_WordsBegin.calls (k : Nat) (a0 : Int) (a1 : Int) (a2 : Int) (A3 : Option Addr) (c3 : Nat) (l3 : List Bool) (r : Bool) (w : World) (hG : GW w) (hr3 : Kd.C Kd.bool w A3 l3.length l3) (hc3 : l3.length ≤ c3) (h : solsticelaw06_WordsBegin.f k a0 a1 a2 l3 = some r) :
  Calls Tryd.prog 4 #[.int .i64 a0, .int .i64 a1, .int .i64 a2, .slice A3 l3.length c3] w fun e w' => e = .returned (.bool r) ∧ Below w.heap.size w w' := by
 have HG := Aside0.mk hG
 clear hG
 have HR3 := Aside0.mk hr3
 have HC3 := Aside0.mk hc3
 clear hr3 hc3
 have HB := Aside0.mk (Below.refl w.heap.size w)
 have H : ((some (([0, 3, 12, 7, 3] : List Int) : List Int)).bind fun y195 => (if 0 ≤ (wrap64 (1 + (wrap64 (Int.tmod (IntKind.u64.wrap (a0)) 4)))) then (if (wrap64 (1 + (wrap64 (Int.tmod (IntKind.u64.wrap (a0)) 4)))) < (y195.length : Int) then (if (IntKind.u64.wrap (rd y195 (wrap64 (1 + (wrap64 (Int.tmod (IntKind.u64.wrap (a0)) 4)))))) = 0 then (none) else ((solsticelaw06_first.f (wrap64 (1 + (wrap64 (Int.tmod (IntKind.u64.wrap (a0)) 4))))).bind fun t199 => ((words_Name.f (wrap64 (1 + (wrap64 (Int.tmod (IntKind.u64.wrap (a0)) 4)))) (wrap64 ((wrap64 (Int.tmod (IntKind.u64.wrap (a1)) (IntKind.u64.wrap (rd y195 (wrap64 (1 + (wrap64 (Int.tmod (IntKind.u64.wrap (a0)) 4)))))))) + t199))).bind fun bt200 => (if bt200.2 = 0 then (solsticelaw06_WordsBegin.j0 k (wrap64 (1 + (wrap64 (Int.tmod (IntKind.u64.wrap (a0)) 4)))) (wrap64 ((wrap64 (Int.tmod (IntKind.u64.wrap (a1)) (IntKind.u64.wrap (rd y195 (wrap64 (1 + (wrap64 (Int.tmod (IntKind.u64.wrap (a0)) 4)))))))) + t199)) a2 l3 (rd y195 (wrap64 (1 + (wrap64 (Int.tmod (IntKind.u64.wrap (a0)) 4))))) bt200.1 (decide ((bt200.1.size : Int) < 3))) else (solsticelaw06_WordsBegin.j0 k (wrap64 (1 + (wrap64 (Int.tmod (IntKind.u64.wrap (a0)) 4)))) (wrap64 ((wrap64 (Int.tmod (IntKind.u64.wrap (a1)) (IntKind.u64.wrap (rd y195 (wrap64 (1 + (wrap64 (Int.tmod (IntKind.u64.wrap (a0)) 4)))))))) + t199)) a2 l3 (rd y195 (wrap64 (1 + (wrap64 (Int.tmod (IntKind.u64.wrap (a0)) 4))))) bt200.1 true))))) else (none)) else (none))) = some r := h
 clear h
 obtain ⟨y195, hy195⟩ : ∃ y_ : List Int, y_ = (([0, 3, 12, 7, 3] : List Int)) := ⟨_, rfl⟩
 replace H : (if 0 ≤ (wrap64 (1 + (wrap64 (Int.tmod (IntKind.u64.wrap (a0)) 4)))) then (if (wrap64 (1 + (wrap64 (Int.tmod (IntKind.u64.wrap (a0)) 4)))) < (y195.length : Int) then (if (IntKind.u64.wrap (rd y195 (wrap64 (1 + (wrap64 (Int.tmod (IntKind.u64.wrap (a0)) 4)))))) = 0 then (none) else ((solsticelaw06_first.f (wrap64 (1 + (wrap64 (Int.tmod (IntKind.u64.wrap (a0)) 4))))).bind fun t199 => ((words_Name.f (wrap64 (1 + (wrap64 (Int.tmod (IntKind.u64.wrap (a0)) 4)))) (wrap64 ((wrap64 (Int.tmod (IntKind.u64.wrap (a1)) (IntKind.u64.wrap (rd y195 (wrap64 (1 + (wrap64 (Int.tmod (IntKind.u64.wrap (a0)) 4)))))))) + t199))).bind fun bt200 => (if bt200.2 = 0 then (solsticelaw06_WordsBegin.j0 k (wrap64 (1 + (wrap64 (Int.tmod (IntKind.u64.wrap (a0)) 4)))) (wrap64 ((wrap64 (Int.tmod (IntKind.u64.wrap (a1)) (IntKind.u64.wrap (rd y195 (wrap64 (1 + (wrap64 (Int.tmod (IntKind.u64.wrap (a0)) 4)))))))) + t199)) a2 l3 (rd y195 (wrap64 (1 + (wrap64 (Int.tmod (IntKind.u64.wrap (a0)) 4))))) bt200.1 (decide ((bt200.1.size : Int) < 3))) else (solsticelaw06_WordsBegin.j0 k (wrap64 (1 + (wrap64 (Int.tmod (IntKind.u64.wrap (a0)) 4)))) (wrap64 ((wrap64 (Int.tmod (IntKind.u64.wrap (a1)) (IntKind.u64.wrap (rd y195 (wrap64 (1 + (wrap64 (Int.tmod (IntKind.u64.wrap (a0)) 4)))))))) + t199)) a2 l3 (rd y195 (wrap64 (1 + (wrap64 (Int.tmod (IntKind.u64.wrap (a0)) 4))))) bt200.1 true))))) else (none)) else (none)) = some r := by first | (rw [hy195]; with_reducible exact H) | (have H2_ := (Option.bind_some _ _).symm.trans H; rw [hy195]; with_reducible exact H2_) | (have H2_ := (Option.bind_some _ _).symm.trans H; with_reducible exact H2_) | with_reducible exact H | (rw [hy195]; exact H) | exact H
 have Ny195 := Aside0.mk hy195
 clear hy195
 obtain ⟨ji5, hji5⟩ : ∃ j_ : Int, (wrap64 (1 + (wrap64 (Int.tmod (IntKind.u64.wrap (a0)) 4)))) = j_ := ⟨_, rfl⟩
 replace H : (if 0 ≤ (ji5) then (if (ji5) < (y195.length : Int) then (if (IntKind.u64.wrap (rd y195 (ji5))) = 0 then (none) else ((solsticelaw06_first.f (ji5)).bind fun t199 => ((words_Name.f (ji5) (wrap64 ((wrap64 (Int.tmod (IntKind.u64.wrap (a1)) (IntKind.u64.wrap (rd y195 (ji5))))) + t199))).bind fun bt200 => (if bt200.2 = 0 then (solsticelaw06_WordsBegin.j0 k ji5 (wrap64 ((wrap64 (Int.tmod (IntKind.u64.wrap (a1)) (IntKind.u64.wrap (rd y195 (ji5))))) + t199)) a2 l3 (rd y195 (ji5)) bt200.1 (decide ((bt200.1.size : Int) < 3))) else (solsticelaw06_WordsBegin.j0 k ji5 (wrap64 ((wrap64 (Int.tmod (IntKind.u64.wrap (a1)) (IntKind.u64.wrap (rd y195 (ji5))))) + t199)) a2 l3 (rd y195 (ji5)) bt200.1 true))))) else (none)) else (none)) = some r := by first | (rw [hji5] at H; exact H) | (simp only [hji5] at H ⊢; exact H)
 have hji5w : (IntKind.i64.wrap (1 + (wrap64 (Int.tmod (IntKind.u64.wrap (a0)) 4)))) = ji5 := (i64_w _).trans hji5
 by_cases c6 : 0 ≤ (ji5)
 ·rw [if_pos c6] at H
  have c6b0 : decide (0 ≤ (ji5)) = true := decide_eq_true c6
  clear c6
  by_cases c7 : (ji5) < (y195.length : Int)
  ·rw [if_pos c7] at H
   have c7b0 : decide ((ji5) < (y195.length : Int)) = true := decide_eq_true c7
   clear c7
   by_cases c8 : (IntKind.u64.wrap (rd y195 (ji5))) = 0
   ·rw [if_pos c8] at H
    exact absurd H (by simp)
   ·rw [if_neg c8] at H
    have c8b0 : ((IntKind.u64.wrap (rd y195 (ji5))) == 0) = false := beq_eq_false_iff_ne.mpr c8
    have c8b1 : ((IntKind.u64.wrap (rd y195 (ji5))) != 0) = true := bne_iff_ne.mpr c8
    replace H := Option.bind_eq_some_iff.mp H
    obtain ⟨t199, A90, H⟩ := H
    (try dsimp only at H)
    have A9 := Aside0.mk A90
    clear A90
    replace H := Option.bind_eq_some_iff.mp H
    obtain ⟨⟨t200, t201⟩, A100, H⟩ := H
    (try dsimp only at H)
    have A10 := Aside0.mk A100
    clear A100
    have HC11 := Aside0.mk H
    clear H
    go_enter Tryd.func4, Tryd.ntmps4
    go_upto_region 5 with (first | ((with_reducible refine gate_dst (N := 30) rfl ?_); (try (refine gate_guard (by rfl) ?_; dsimp only)); refine Kd.R_lit (Kd.int .i64) _ 3 ?hg (N := 30) ?hd (xs := ([0, 3, 12, 7, 3] : List Int)) (inner := [.int .i64 0, .int .i64 3, .int .i64 12, .int .i64 7, .int .i64 3]) (ok := fun _ => True) (okp := fun _ => True) ?hr ?hp (fun _ hk => hk) trivial (Below.refl _ _) (Nat.le_refl _) (by simp) ?_; (case hd => rfl); (case hg => rfl); (case hr => first | (go_simp; done) | (go_simp; rfl)); (case hp => exact (Reps.one (show Kd.M (Kd.int .i64) _ _ _ 0 [.int .i64 0] from rfl) (Reps.one (show Kd.M (Kd.int .i64) _ _ _ 3 [.int .i64 3] from rfl) (Reps.one (show Kd.M (Kd.int .i64) _ _ _ 12 [.int .i64 12] from rfl) (Reps.one (show Kd.M (Kd.int .i64) _ _ _ 7 [.int .i64 7] from rfl) (Reps.one (show Kd.M (Kd.int .i64) _ _ _ 3 [.int .i64 3] from rfl) (Reps.none _ _))))))); intro v196 w12 ho13 hb hg_ hnew_; clear hg_ hnew_; (first | rw [← Ny195.out] at ho13 | (simp only [Int.reduceToNat] at ho13; rw [← Ny195.out] at ho13)); have n0_ := Aside0.mk (Kd.R_lower ho13 (below_size (by repeat (first | (with_reducible first | exact HB.out | apply bA | apply bN | apply below_drew1) | exact HB.out)))); have n1_ := Aside0.mk (below_step (by repeat (first | (with_reducible first | exact HB.out | apply bA | apply bN | apply below_drew1) | exact HB.out)) hb); clear HB; have HO197 := n0_; have HB := n1_; clear n0_ n1_; clear hb ho13; obtain ⟨Ao14, co14, eo14⟩ := Kd.R_slice HO197.out; subst eo14; have p198 : 0 ≤ ((ji5) : Int) := of_decide_eq_true (by first | (with_reducible assumption) | assumption); have q198 : (ji5) < (y195.length : Int) := of_decide_eq_true (by first | (with_reducible assumption) | assumption); obtain ⟨ad198, e198, hx198_0⟩ := Kd.at_int (Kd.R_reads' HO197.out).2.2 (ji5) p198 q198; cases e198; replace p198 := eq_true p198; replace q198 := eq_true q198) | (go_at_call 7; (with_reducible refine (solsticelaw06_first.calls ji5 t199 _ A9.out).mono ?_); rintro e w' ⟨rfl, ⟨nd, rfl⟩⟩; (try first | exact ⟨rfl, _, World.drewN_drewN _ _ _⟩ | exact ⟨rfl, _, Eq.trans (World.drewN_drewN _ _ _) (congrArg (World.drewN _) (Nat.add_assoc _ _ _))⟩)) | (go_at_call 8; (with_reducible refine (words_Name.calls ji5 (wrap64 ((wrap64 (Int.tmod (IntKind.u64.wrap (a1)) (IntKind.u64.wrap (rd y195 (ji5))))) + t199)) t200 t201 _ ?side1 A10.out).mono ?_); (case side1 => exact GW.on HG.out (by repeat (first | (with_reducible first | exact HB.out | apply bA | apply bN | apply below_drew1) | exact HB.out))); rintro e w15 ⟨rfl, hb⟩; have n0_ := Aside0.mk (Kd.R_below (by (with_reducible repeat (first | apply Kd.R_alloc | apply Kd.R_drewN | apply Kd.R_drew)); exact HO197.out) hb); have n1_ := Aside0.mk (below_step (by repeat (first | (with_reducible first | exact HB.out | apply bA | apply bN | apply below_drew1) | exact HB.out)) hb); clear HO197; clear HB; have HO197 := n0_; have HB := n1_; clear n0_ n1_; (try clear hb); (try clear hb2); (try clear hk); (try clear hi)))
    repeat (go_quiet (first | ((with_reducible refine gate_dst (N := 30) rfl ?_); (try (refine gate_guard (by rfl) ?_; dsimp only)); refine Kd.R_lit (Kd.int .i64) _ 3 ?hg (N := 30) ?hd (xs := ([0, 3, 12, 7, 3] : List Int)) (inner := [.int .i64 0, .int .i64 3, .int .i64 12, .int .i64 7, .int .i64 3]) (ok := fun _ => True) (okp := fun _ => True) ?hr ?hp (fun _ hk => hk) trivial (Below.refl _ _) (Nat.le_refl _) (by simp) ?_; (case hd => rfl); (case hg => rfl); (case hr => first | (go_simp; done) | (go_simp; rfl)); (case hp => exact (Reps.one (show Kd.M (Kd.int .i64) _ _ _ 0 [.int .i64 0] from rfl) (Reps.one (show Kd.M (Kd.int .i64) _ _ _ 3 [.int .i64 3] from rfl) (Reps.one (show Kd.M (Kd.int .i64) _ _ _ 12 [.int .i64 12] from rfl) (Reps.one (show Kd.M (Kd.int .i64) _ _ _ 7 [.int .i64 7] from rfl) (Reps.one (show Kd.M (Kd.int .i64) _ _ _ 3 [.int .i64 3] from rfl) (Reps.none _ _))))))); intro v196 w12 ho13 hb hg_ hnew_; clear hg_ hnew_; (first | rw [← Ny195.out] at ho13 | (simp only [Int.reduceToNat] at ho13; rw [← Ny195.out] at ho13)); have n0_ := Aside0.mk (Kd.R_lower ho13 (below_size (by repeat (first | (with_reducible first | exact HB.out | apply bA | apply bN | apply below_drew1) | exact HB.out)))); have n1_ := Aside0.mk (below_step (by repeat (first | (with_reducible first | exact HB.out | apply bA | apply bN | apply below_drew1) | exact HB.out)) hb); clear HB; have HO197 := n0_; have HB := n1_; clear n0_ n1_; clear hb ho13; obtain ⟨Ao14, co14, eo14⟩ := Kd.R_slice HO197.out; subst eo14; have p198 : 0 ≤ ((ji5) : Int) := of_decide_eq_true (by first | (with_reducible assumption) | assumption); have q198 : (ji5) < (y195.length : Int) := of_decide_eq_true (by first | (with_reducible assumption) | assumption); obtain ⟨ad198, e198, hx198_0⟩ := Kd.at_int (Kd.R_reads' HO197.out).2.2 (ji5) p198 q198; cases e198; replace p198 := eq_true p198; replace q198 := eq_true q198) | (go_at_call 7; (with_reducible refine (solsticelaw06_first.calls ji5 t199 _ A9.out).mono ?_); rintro e w' ⟨rfl, ⟨nd, rfl⟩⟩; (try first | exact ⟨rfl, _, World.drewN_drewN _ _ _⟩ | exact ⟨rfl, _, Eq.trans (World.drewN_drewN _ _ _) (congrArg (World.drewN _) (Nat.add_assoc _ _ _))⟩)) | (go_at_call 8; (with_reducible refine (words_Name.calls ji5 (wrap64 ((wrap64 (Int.tmod (IntKind.u64.wrap (a1)) (IntKind.u64.wrap (rd y195 (ji5))))) + t199)) t200 t201 _ ?side1 A10.out).mono ?_); (case side1 => exact GW.on HG.out (by repeat (first | (with_reducible first | exact HB.out | apply bA | apply bN | apply below_drew1) | exact HB.out))); rintro e w15 ⟨rfl, hb⟩; have n0_ := Aside0.mk (Kd.R_below (by (with_reducible repeat (first | apply Kd.R_alloc | apply Kd.R_drewN | apply Kd.R_drew)); exact HO197.out) hb); have n1_ := Aside0.mk (below_step (by repeat (first | (with_reducible first | exact HB.out | apply bA | apply bN | apply below_drew1) | exact HB.out)) hb); clear HO197; clear HB; have HO197 := n0_; have HB := n1_; clear n0_ n1_; (try clear hb); (try clear hb2); (try clear hk); (try clear hi))); go_upto_region 5 with (first | ((with_reducible refine gate_dst (N := 30) rfl ?_); (try (refine gate_guard (by rfl) ?_; dsimp only)); refine Kd.R_lit (Kd.int .i64) _ 3 ?hg (N := 30) ?hd (xs := ([0, 3, 12, 7, 3] : List Int)) (inner := [.int .i64 0, .int .i64 3, .int .i64 12, .int .i64 7, .int .i64 3]) (ok := fun _ => True) (okp := fun _ => True) ?hr ?hp (fun _ hk => hk) trivial (Below.refl _ _) (Nat.le_refl _) (by simp) ?_; (case hd => rfl); (case hg => rfl); (case hr => first | (go_simp; done) | (go_simp; rfl)); (case hp => exact (Reps.one (show Kd.M (Kd.int .i64) _ _ _ 0 [.int .i64 0] from rfl) (Reps.one (show Kd.M (Kd.int .i64) _ _ _ 3 [.int .i64 3] from rfl) (Reps.one (show Kd.M (Kd.int .i64) _ _ _ 12 [.int .i64 12] from rfl) (Reps.one (show Kd.M (Kd.int .i64) _ _ _ 7 [.int .i64 7] from rfl) (Reps.one (show Kd.M (Kd.int .i64) _ _ _ 3 [.int .i64 3] from rfl) (Reps.none _ _))))))); intro v196 w12 ho13 hb hg_ hnew_; clear hg_ hnew_; (first | rw [← Ny195.out] at ho13 | (simp only [Int.reduceToNat] at ho13; rw [← Ny195.out] at ho13)); have n0_ := Aside0.mk (Kd.R_lower ho13 (below_size (by repeat (first | (with_reducible first | exact HB.out | apply bA | apply bN | apply below_drew1) | exact HB.out)))); have n1_ := Aside0.mk (below_step (by repeat (first | (with_reducible first | exact HB.out | apply bA | apply bN | apply below_drew1) | exact HB.out)) hb); clear HB; have HO197 := n0_; have HB := n1_; clear n0_ n1_; clear hb ho13; obtain ⟨Ao14, co14, eo14⟩ := Kd.R_slice HO197.out; subst eo14; have p198 : 0 ≤ ((ji5) : Int) := of_decide_eq_true (by first | (with_reducible assumption) | assumption); have q198 : (ji5) < (y195.length : Int) := of_decide_eq_true (by first | (with_reducible assumption) | assumption); obtain ⟨ad198, e198, hx198_0⟩ := Kd.at_int (Kd.R_reads' HO197.out).2.2 (ji5) p198 q198; cases e198; replace p198 := eq_true p198; replace q198 := eq_true q198) | (go_at_call 7; (with_reducible refine (solsticelaw06_first.calls ji5 t199 _ A9.out).mono ?_); rintro e w' ⟨rfl, ⟨nd, rfl⟩⟩; (try first | exact ⟨rfl, _, World.drewN_drewN _ _ _⟩ | exact ⟨rfl, _, Eq.trans (World.drewN_drewN _ _ _) (congrArg (World.drewN _) (Nat.add_assoc _ _ _))⟩)) | (go_at_call 8; (with_reducible refine (words_Name.calls ji5 (wrap64 ((wrap64 (Int.tmod (IntKind.u64.wrap (a1)) (IntKind.u64.wrap (rd y195 (ji5))))) + t199)) t200 t201 _ ?side1 A10.out).mono ?_); (case side1 => exact GW.on HG.out (by repeat (first | (with_reducible first | exact HB.out | apply bA | apply bN | apply below_drew1) | exact HB.out))); rintro e w15 ⟨rfl, hb⟩; have n0_ := Aside0.mk (Kd.R_below (by (with_reducible repeat (first | apply Kd.R_alloc | apply Kd.R_drewN | apply Kd.R_drew)); exact HO197.out) hb); have n1_ := Aside0.mk (below_step (by repeat (first | (with_reducible first | exact HB.out | apply bA | apply bN | apply below_drew1) | exact HB.out)) hb); clear HO197; clear HB; have HO197 := n0_; have HB := n1_; clear n0_ n1_; (try clear hb); (try clear hb2); (try clear hk); (try clear hi))))
    (try simp only [Act.put, List.setIfInBounds_toArray, List.set_cons_zero, List.set_cons_succ])
    go_cut [55] (fun v55 wc => ∃ (kq : Nat) (x55_10 : Bool), v55 = .bool x55_10 ∧ Aside0 (solsticelaw06_WordsBegin.j0 kq ji5 (wrap64 ((wrap64 (Int.tmod (IntKind.u64.wrap (a1)) (IntKind.u64.wrap (rd y195 (ji5))))) + t199)) a2 l3 (rd y195 (ji5)) t200 x55_10 = some r) ∧ Aside0 (kq ≤ k) ∧ Aside0 (Below w.heap.size w wc))
    case first => as_aux_lemma =>
     have H := HC11.out
     clear HC11
     by_cases c16 : t201 = 0
     ·rw [if_pos c16] at H
      have c16b0 : (t201 == 0) = true := beq_iff_eq.mpr c16
      have c16b1 : (t201 != 0) = false := bne_eq_false_iff_eq.mpr c16
      clear c16
      (first | rw [c16b0] | (simp only [i64_w, i32_w]; rw [c16b0]) | skip)
      have H' := Aside0.mk H
      clear H
      go_wp2
      repeat (go_quiet (fail); try go_wp2)
      go_meet
      case rel => exact ⟨_, (decide ((t200.size : Int) < 3)), (by first | rfl | (simp; done) | (simp [*]; done)), H', ⟨by first | omega | exact Nat.le_refl _⟩, ⟨by repeat (first | (with_reducible first | exact HB.out | apply bA | apply bN | apply below_drew1) | exact HB.out)⟩⟩
     ·rw [if_neg c16] at H
      have c16b0 : (t201 == 0) = false := beq_eq_false_iff_ne.mpr c16
      have c16b1 : (t201 != 0) = true := bne_iff_ne.mpr c16
      (first | rw [c16b0] | (simp only [i64_w, i32_w]; rw [c16b0]) | skip)
      have H' := Aside0.mk H
      clear H
      go_wp2
      repeat (go_quiet (fail); try go_wp2)
      go_meet
      case rel => exact ⟨_, (true), (by first | rfl | (simp; done) | (simp [*]; done)), H', ⟨by first | omega | exact Nat.le_refl _⟩, ⟨by repeat (first | (with_reducible first | exact HB.out | apply bA | apply bN | apply below_drew1) | exact HB.out)⟩⟩
    case rest => as_aux_lemma =>
     clear HC11
     try clear c1
     try clear p1
     try clear q1
     try clear hx1
     try clear p2
     try clear c3
     try clear c4
     try clear c6
     try clear c6b0
     try clear p6
     try clear c7
     try clear c7b0
     try clear c8
     try clear c8b0
     try clear c8b1
     try clear c16
     try clear c16b0
     try clear c16b1
     try clear hx198_0
     try clear p198
     try clear q198
     obtain ⟨kq, x55_10, rfl, HA, HJ10, HB⟩ := hcut
     cases kq with
     | zero => exact absurd HA.out (by simp [solsticelaw06_WordsBegin.j0])
     | succ kj10 =>
      have H := HA.out
      clear HA
      simp only [solsticelaw06_WordsBegin.j0] at H
      by_cases c17 : x55_10 = true
      ·subst c17
       have H1 : (none) = some r := by rw [if_pos rfl] at H; exact H
       clear H
       have H := H1
       clear H1
       exact absurd H (by simp)
      ·replace c17 := Bool.eq_false_iff.mpr c17
       subst c17
       have H1 : (if (IntKind.u64.wrap ((t200.size : Int))) = 0 then (none) else (if 0 ≤ (wrap64 (1 + (wrap64 (Int.tmod (IntKind.u64.wrap (a2)) (IntKind.u64.wrap ((t200.size : Int))))))) then (if (wrap64 (1 + (wrap64 (Int.tmod (IntKind.u64.wrap (a2)) (IntKind.u64.wrap ((t200.size : Int))))))) ≤ (t200.size : Int) then (if 0 + (t200.extract 0 ((wrap64 (1 + (wrap64 (Int.tmod (IntKind.u64.wrap (a2)) (IntKind.u64.wrap ((t200.size : Int))))))) : Int).toNat).size < 140737488355328 then (solsticelaw06_WordsBegin.l0 kj10 ji5 (wrap64 ((wrap64 (Int.tmod (IntKind.u64.wrap (a1)) (IntKind.u64.wrap (rd y195 (ji5))))) + t199)) (wrap64 (1 + (wrap64 (Int.tmod (IntKind.u64.wrap (a2)) (IntKind.u64.wrap ((t200.size : Int))))))) l3 (rd y195 (ji5)) t200 (bytesOf (t200.extract 0 ((wrap64 (1 + (wrap64 (Int.tmod (IntKind.u64.wrap (a2)) (IntKind.u64.wrap ((t200.size : Int))))))) : Int).toNat)) 0) else (none)) else (none)) else (none))) = some r := by rw [if_neg (show ¬ (false = true) by decide)] at H; exact H
       clear H
       have H := H1
       clear H1
       by_cases c18 : (IntKind.u64.wrap ((t200.size : Int))) = 0
       ·rw [if_pos c18] at H
        exact absurd H (by simp)
       ·rw [if_neg c18] at H
        have c18b0 : ((IntKind.u64.wrap ((t200.size : Int))) == 0) = false := beq_eq_false_iff_ne.mpr c18
        have c18b1 : ((IntKind.u64.wrap ((t200.size : Int))) != 0) = true := bne_iff_ne.mpr c18
        obtain ⟨ji19, hji19⟩ : ∃ j_ : Int, (wrap64 (1 + (wrap64 (Int.tmod (IntKind.u64.wrap (a2)) (IntKind.u64.wrap ((t200.size : Int))))))) = j_ := ⟨_, rfl⟩
        replace H : (if 0 ≤ (ji19) then (if (ji19) ≤ (t200.size : Int) then (if 0 + (t200.extract 0 ((ji19) : Int).toNat).size < 140737488355328 then (solsticelaw06_WordsBegin.l0 kj10 ji5 (wrap64 ((wrap64 (Int.tmod (IntKind.u64.wrap (a1)) (IntKind.u64.wrap (rd y195 (ji5))))) + t199)) ji19 l3 (rd y195 (ji5)) t200 (bytesOf (t200.extract 0 ((ji19) : Int).toNat)) 0) else (none)) else (none)) else (none)) = some r := by first | (rw [hji19] at H; exact H) | (simp only [hji19] at H ⊢; exact H)
        have hji19w : (IntKind.i64.wrap (1 + (wrap64 (Int.tmod (IntKind.u64.wrap (a2)) (IntKind.u64.wrap ((t200.size : Int))))))) = ji19 := (i64_w _).trans hji19
        by_cases c20 : 0 ≤ (ji19)
        ·rw [if_pos c20] at H
         have c20b0 := eq_true c20
         have c20b1 : decide (0 ≤ (ji19)) = true := decide_eq_true c20
         clear c20
         by_cases c21 : (ji19) ≤ (t200.size : Int)
         ·rw [if_pos c21] at H
          have c21b0 := eq_true c21
          have c21b1 : decide ((ji19) ≤ (t200.size : Int)) = true := decide_eq_true c21
          clear c21
          by_cases c22 : 0 + (t200.extract 0 ((ji19) : Int).toNat).size < 140737488355328
          ·rw [if_pos c22] at H
           have LMc22 := Aside0.mk c22
           clear c22
           obtain ⟨y202, hy202⟩ : ∃ y_ : List Int, y_ = (bytesOf (t200.extract 0 ((ji19) : Int).toNat)) := ⟨_, rfl⟩
           replace H : (solsticelaw06_WordsBegin.l0 kj10 ji5 (wrap64 ((wrap64 (Int.tmod (IntKind.u64.wrap (a1)) (IntKind.u64.wrap (rd y195 (ji5))))) + t199)) ji19 l3 (rd y195 (ji5)) t200 y202 0) = some r := by first | (rw [hy202]; with_reducible exact H) | (have H2_ := (Option.bind_some _ _).symm.trans H; rw [hy202]; with_reducible exact H2_) | (have H2_ := (Option.bind_some _ _).symm.trans H; with_reducible exact H2_) | with_reducible exact H | (rw [hy202]; exact H) | exact H
           have Ny202 := Aside0.mk hy202
           clear hy202
           have H' := Aside0.mk H
           clear H
           go_wp2_with (first | ((with_reducible refine gate_dst (N := 67) rfl ?_); refine Bd.event ?eg (N := 67) ?ed 9 36 5 (.tmp 66) (t200.extract 0 ((ji19) : Int).toNat) ?eo ?ex Tryd.underlying9 Tryd.underlying36 Tryd.underlying5 ?el ?_; (case eg => rfl); (case ed => rfl); (case eo => rfl); (case ex => first | rfl | (go_simp; done) | (go_simp; rfl)); (case el => have := LMc22.out; omega); intro v203 w23 ho0 hb; have ho := Bd.R_lower ho0 (below_size (by repeat (first | (with_reducible first | exact HB.out | apply bA | apply bN | apply below_drew1) | exact HB.out))); clear ho0; rw [← Ny202.out] at ho; have hat := True.intro; have hg := True.intro; have n0_ := Aside0.mk (below_step (by repeat (first | (with_reducible first | exact HB.out | apply bA | apply bN | apply below_drew1) | exact HB.out)) hb); have n1_ := Aside0.mk (ho); clear HB; have HB := n0_; have HO204 := n1_; clear n0_ n1_; clear ho hb hg hat))
           repeat (go_quiet (first | ((with_reducible refine gate_dst (N := 67) rfl ?_); refine Bd.event ?eg (N := 67) ?ed 9 36 5 (.tmp 66) (t200.extract 0 ((ji19) : Int).toNat) ?eo ?ex Tryd.underlying9 Tryd.underlying36 Tryd.underlying5 ?el ?_; (case eg => rfl); (case ed => rfl); (case eo => rfl); (case ex => first | rfl | (go_simp; done) | (go_simp; rfl)); (case el => have := LMc22.out; omega); intro v203 w23 ho0 hb; have ho := Bd.R_lower ho0 (below_size (by repeat (first | (with_reducible first | exact HB.out | apply bA | apply bN | apply below_drew1) | exact HB.out))); clear ho0; rw [← Ny202.out] at ho; have hat := True.intro; have hg := True.intro; have n0_ := Aside0.mk (below_step (by repeat (first | (with_reducible first | exact HB.out | apply bA | apply bN | apply below_drew1) | exact HB.out)) hb); have n1_ := Aside0.mk (ho); clear HB; have HB := n0_; have HO204 := n1_; clear n0_ n1_; clear ho hb hg hat)); try go_wp2_with (first | ((with_reducible refine gate_dst (N := 67) rfl ?_); refine Bd.event ?eg (N := 67) ?ed 9 36 5 (.tmp 66) (t200.extract 0 ((ji19) : Int).toNat) ?eo ?ex Tryd.underlying9 Tryd.underlying36 Tryd.underlying5 ?el ?_; (case eg => rfl); (case ed => rfl); (case eo => rfl); (case ex => first | rfl | (go_simp; done) | (go_simp; rfl)); (case el => have := LMc22.out; omega); intro v203 w23 ho0 hb; have ho := Bd.R_lower ho0 (below_size (by repeat (first | (with_reducible first | exact HB.out | apply bA | apply bN | apply below_drew1) | exact HB.out))); clear ho0; rw [← Ny202.out] at ho; have hat := True.intro; have hg := True.intro; have n0_ := Aside0.mk (below_step (by repeat (first | (with_reducible first | exact HB.out | apply bA | apply bN | apply below_drew1) | exact HB.out)) hb); have n1_ := Aside0.mk (ho); clear HB; have HB := n0_; have HO204 := n1_; clear n0_ n1_; clear ho hb hg hat)))
           go_loopg [13] kj10 (fun kq v13 w' => ∃ (x12_2 : List Int) (x13_2 : Int), v13 = .int .i64 x13_2 ∧ Aside0 (solsticelaw06_WordsBegin.l0 kq ji5 (wrap64 ((wrap64 (Int.tmod (IntKind.u64.wrap (a1)) (IntKind.u64.wrap (rd y195 (ji5))))) + t199)) ji19 l3 (rd y195 (ji5)) t200 x12_2 x13_2 = some r) ∧ Aside0 (kq ≤ kj10) ∧ Aside0 (Bd.R 5 w' w.heap.size (fun _ => True) v203 x12_2) ∧ Aside0 (Below w.heap.size w w'))
           case atStart => exact ⟨(y202), (0), (by first | rfl | (simp; done) | (simp [*]; done)), H', ⟨Nat.le_refl _⟩, ⟨by (with_reducible repeat (first | apply Bd.R_alloc | apply Bd.R_drewN | apply Bd.R_drew)); exact HO204.out⟩, ⟨by repeat (first | (with_reducible first | exact HB.out | apply bA | apply bN | apply below_drew1) | exact HB.out)⟩⟩
           case round => as_aux_lemma =>
            clear H'
            try clear c1
            try clear p1
            try clear q1
            try clear hx1
            try clear c2
            try clear p2
            try clear c3
            try clear c4
            try clear c6
            try clear c6b0
            try clear p6
            try clear c7
            try clear c7b0
            try clear c8
            try clear c8b0
            try clear c8b1
            try clear c16
            try clear c16b0
            try clear c16b1
            try clear c17
            try clear c18
            try clear c18b0
            try clear c18b1
            try clear p19
            try clear q19
            try clear hx19
            try clear c20
            try clear c20b0
            try clear c20b1
            try clear c21
            try clear c21b0
            try clear c21b1
            try clear c22
            try clear hx198_0
            try clear p1
            try clear p198
            try clear p2
            try clear p6
            try clear q1
            try clear q198
            obtain ⟨x12_2, x13_2, rfl, HA, HK2, HO_12, HB⟩ := hrel
            cases gk with
            | zero => exact absurd HA.out (by simp [solsticelaw06_WordsBegin.l0])
            | succ k2 =>
             have H := HA.out
             clear HA
             simp only [solsticelaw06_WordsBegin.l0] at H
             by_cases c24 : x13_2 < (x12_2.length : Int)
             ·rw [if_pos c24] at H
              have c24b0 : decide (x13_2 < (x12_2.length : Int)) = true := decide_eq_true c24
              clear c24
              have HC25 := Aside0.mk H
              clear H
              obtain ⟨Ao26, co26, eo26⟩ := Bd.R_slice HO_12.out
              subst eo26
              go_upto_region 12 with (fail)
              repeat (go_quiet (fail); go_upto_region 12 with (fail))
              go_cut [97] (fun v97 wc => ∃ (kq : Nat) (x97_24 : Bool), v97 = .bool x97_24 ∧ Aside0 (solsticelaw06_WordsBegin.j2 kq ji5 (wrap64 ((wrap64 (Int.tmod (IntKind.u64.wrap (a1)) (IntKind.u64.wrap (rd y195 (ji5))))) + t199)) ji19 l3 (rd y195 (ji5)) t200 x12_2 x13_2 x97_24 = some r) ∧ Aside0 (kq ≤ k2) ∧ Aside0 (Bd.R 5 wc w.heap.size (fun _ => True) (.slice Ao26 x12_2.length co26) x12_2) ∧ Aside0 (Below w.heap.size w wc))
              case first => as_aux_lemma =>
               have H := HC25.out
               clear HC25
               by_cases c27 : x13_2 < (l3.length : Int)
               ·rw [if_pos c27] at H
                have c27b0 : decide (x13_2 < (l3.length : Int)) = true := decide_eq_true c27
                clear c27
                (first | rw [c27b0] | (simp only [i64_w, i32_w]; rw [c27b0]) | skip)
                by_cases c28 : 0 ≤ x13_2
                ·rw [if_pos c28] at H
                 have c28b0 : decide (0 ≤ x13_2) = true := decide_eq_true c28
                 clear c28
                 obtain ⟨bq29, hbq29⟩ : ∃ b_ : Bool, b_ = (rdOf false l3 x13_2) := ⟨_, rfl⟩
                 replace H : (if bq29 = true then (if (rd x12_2 x13_2) ≥ 97 then (solsticelaw06_WordsBegin.j2 k2 ji5 (wrap64 ((wrap64 (Int.tmod (IntKind.u64.wrap (a1)) (IntKind.u64.wrap (rd y195 (ji5))))) + t199)) ji19 l3 (rd y195 (ji5)) t200 x12_2 x13_2 (decide ((rd x12_2 x13_2) ≤ 122))) else (solsticelaw06_WordsBegin.j2 k2 ji5 (wrap64 ((wrap64 (Int.tmod (IntKind.u64.wrap (a1)) (IntKind.u64.wrap (rd y195 (ji5))))) + t199)) ji19 l3 (rd y195 (ji5)) t200 x12_2 x13_2 false)) else (solsticelaw06_WordsBegin.j2 k2 ji5 (wrap64 ((wrap64 (Int.tmod (IntKind.u64.wrap (a1)) (IntKind.u64.wrap (rd y195 (ji5))))) + t199)) ji19 l3 (rd y195 (ji5)) t200 x12_2 x13_2 false)) = some r := by rw [← hbq29] at H; exact H
                 have Nbq29 := Aside0.mk hbq29
                 clear hbq29
                 by_cases c30 : bq29 = true
                 ·subst c30
                  have H1 : (if (rd x12_2 x13_2) ≥ 97 then (solsticelaw06_WordsBegin.j2 k2 ji5 (wrap64 ((wrap64 (Int.tmod (IntKind.u64.wrap (a1)) (IntKind.u64.wrap (rd y195 (ji5))))) + t199)) ji19 l3 (rd y195 (ji5)) t200 x12_2 x13_2 (decide ((rd x12_2 x13_2) ≤ 122))) else (solsticelaw06_WordsBegin.j2 k2 ji5 (wrap64 ((wrap64 (Int.tmod (IntKind.u64.wrap (a1)) (IntKind.u64.wrap (rd y195 (ji5))))) + t199)) ji19 l3 (rd y195 (ji5)) t200 x12_2 x13_2 false)) = some r := by rw [if_pos rfl] at H; exact H
                  clear H
                  have H := H1
                  clear H1
                  by_cases c31 : (rd x12_2 x13_2) ≥ 97
                  ·rw [if_pos c31] at H
                   have c31b0 : decide (97 ≤ (rd x12_2 x13_2)) = true := decide_eq_true c31
                   clear c31
                   have H' := Aside0.mk H
                   clear H
                   have p205 : 0 ≤ (x13_2 : Int) := of_decide_eq_true (by first | (with_reducible assumption) | assumption)
                   have q205 : x13_2 < (l3.length : Int) := of_decide_eq_true (by first | (with_reducible assumption) | assumption)
                   obtain ⟨ad205, e205, hx205_0⟩ := Kd.at_bool HR3.out x13_2 p205 q205
                   (try rw [← Nbq29.out] at hx205_0)
                   cases e205
                   replace hx205_0 := (HB.out.cell (World.block_lt_of_cell? w _ hx205_0)).trans hx205_0
                   replace p205 := eq_true p205
                   replace q205 := eq_true q205
                   have p206 : 0 ≤ (x13_2 : Int) := of_decide_eq_true (by first | (with_reducible assumption) | assumption)
                   have q206 : x13_2 < (x12_2.length : Int) := of_decide_eq_true (by first | (with_reducible assumption) | assumption)
                   obtain ⟨ad206, e206, hx206_0⟩ := Kd.at_int (Bd.R_reads' HO_12.out).2.2 x13_2 p206 q206
                   cases e206
                   replace p206 := eq_true p206
                   replace q206 := eq_true q206
                   have p207 : 0 ≤ (x13_2 : Int) := of_decide_eq_true (by first | (with_reducible assumption) | assumption)
                   have q207 : x13_2 < (x12_2.length : Int) := of_decide_eq_true (by first | (with_reducible assumption) | assumption)
                   obtain ⟨ad207, e207, hx207_0⟩ := Kd.at_int (Bd.R_reads' HO_12.out).2.2 x13_2 p207 q207
                   obtain rfl : ad206 = ad207 := (by injection e207)
                   replace p207 := eq_true p207
                   replace q207 := eq_true q207
                   go_wp2
                   repeat (go_quiet (fail); try go_wp2)
                   go_meet
                   case rel => exact ⟨_, (decide ((rd x12_2 x13_2) ≤ 122)), (by first | rfl | (simp; done) | (simp [*]; done)), H', ⟨by have := HJ10.out; have := HK2.out; first | omega | exact Nat.le_refl _⟩, ⟨by (with_reducible repeat (first | apply Bd.R_alloc | apply Bd.R_drewN | apply Bd.R_drew)); exact HO_12.out⟩, ⟨by repeat (first | (with_reducible first | exact HB.out | apply bA | apply bN | apply below_drew1) | exact HB.out)⟩⟩
                  ·rw [if_neg c31] at H
                   have c31b0 : decide (97 ≤ (rd x12_2 x13_2)) = false := decide_eq_false c31
                   clear c31
                   have H' := Aside0.mk H
                   clear H
                   have p205 : 0 ≤ (x13_2 : Int) := of_decide_eq_true (by first | (with_reducible assumption) | assumption)
                   have q205 : x13_2 < (l3.length : Int) := of_decide_eq_true (by first | (with_reducible assumption) | assumption)
                   obtain ⟨ad205, e205, hx205_0⟩ := Kd.at_bool HR3.out x13_2 p205 q205
                   (try rw [← Nbq29.out] at hx205_0)
                   cases e205
                   replace hx205_0 := (HB.out.cell (World.block_lt_of_cell? w _ hx205_0)).trans hx205_0
                   replace p205 := eq_true p205
                   replace q205 := eq_true q205
                   have p206 : 0 ≤ (x13_2 : Int) := of_decide_eq_true (by first | (with_reducible assumption) | assumption)
                   have q206 : x13_2 < (x12_2.length : Int) := of_decide_eq_true (by first | (with_reducible assumption) | assumption)
                   obtain ⟨ad206, e206, hx206_0⟩ := Kd.at_int (Bd.R_reads' HO_12.out).2.2 x13_2 p206 q206
                   cases e206
                   replace p206 := eq_true p206
                   replace q206 := eq_true q206
                   go_wp2
                   repeat (go_quiet (fail); try go_wp2)
                   go_meet
                   case rel => exact ⟨_, (false), (by first | rfl | (simp; done) | (simp [*]; done)), H', ⟨by have := HJ10.out; have := HK2.out; first | omega | exact Nat.le_refl _⟩, ⟨by (with_reducible repeat (first | apply Bd.R_alloc | apply Bd.R_drewN | apply Bd.R_drew)); exact HO_12.out⟩, ⟨by repeat (first | (with_reducible first | exact HB.out | apply bA | apply bN | apply below_drew1) | exact HB.out)⟩⟩
                 ·replace c30 := Bool.eq_false_iff.mpr c30
                  subst c30
                  have H1 : (solsticelaw06_WordsBegin.j2 k2 ji5 (wrap64 ((wrap64 (Int.tmod (IntKind.u64.wrap (a1)) (IntKind.u64.wrap (rd y195 (ji5))))) + t199)) ji19 l3 (rd y195 (ji5)) t200 x12_2 x13_2 false) = some r := by rw [if_neg (show ¬ (false = true) by decide)] at H; exact H
                  clear H
                  have H := H1
                  clear H1
                  have H' := Aside0.mk H
                  clear H
                  have p205 : 0 ≤ (x13_2 : Int) := of_decide_eq_true (by first | (with_reducible assumption) | assumption)
                  have q205 : x13_2 < (l3.length : Int) := of_decide_eq_true (by first | (with_reducible assumption) | assumption)
                  obtain ⟨ad205, e205, hx205_0⟩ := Kd.at_bool HR3.out x13_2 p205 q205
                  (try rw [← Nbq29.out] at hx205_0)
                  cases e205
                  replace hx205_0 := (HB.out.cell (World.block_lt_of_cell? w _ hx205_0)).trans hx205_0
                  replace p205 := eq_true p205
                  replace q205 := eq_true q205
                  go_wp2
                  repeat (go_quiet (fail); try go_wp2)
                  go_meet
                  case rel => exact ⟨_, (false), (by first | rfl | (simp; done) | (simp [*]; done)), H', ⟨by have := HJ10.out; have := HK2.out; first | omega | exact Nat.le_refl _⟩, ⟨by (with_reducible repeat (first | apply Bd.R_alloc | apply Bd.R_drewN | apply Bd.R_drew)); exact HO_12.out⟩, ⟨by repeat (first | (with_reducible first | exact HB.out | apply bA | apply bN | apply below_drew1) | exact HB.out)⟩⟩
                ·rw [if_neg c28] at H
                 exact absurd H (by simp)
               ·rw [if_neg c27] at H
                have c27b0 : decide (x13_2 < (l3.length : Int)) = false := decide_eq_false c27
                clear c27
                (first | rw [c27b0] | (simp only [i64_w, i32_w]; rw [c27b0]) | skip)
                have H' := Aside0.mk H
                clear H
                go_wp2
                repeat (go_quiet (fail); try go_wp2)
                go_meet
                case rel => exact ⟨_, (false), (by first | rfl | (simp; done) | (simp [*]; done)), H', ⟨by have := HJ10.out; have := HK2.out; first | omega | exact Nat.le_refl _⟩, ⟨by (with_reducible repeat (first | apply Bd.R_alloc | apply Bd.R_drewN | apply Bd.R_drew)); exact HO_12.out⟩, ⟨by repeat (first | (with_reducible first | exact HB.out | apply bA | apply bN | apply below_drew1) | exact HB.out)⟩⟩
              case rest => as_aux_lemma =>
               clear HC25
               try clear c1
               try clear p1
               try clear q1
               try clear hx1
               try clear c2
               try clear p2
               try clear q2
               try clear hx2
               try clear c3
               try clear c4
               try clear c6
               try clear c6b0
               try clear p6
               try clear c7
               try clear c7b0
               try clear c8
               try clear c8b0
               try clear c8b1
               try clear c16
               try clear c16b0
               try clear c16b1
               try clear c17
               try clear c18
               try clear c18b0
               try clear c18b1
               try clear p19
               try clear q19
               try clear hx19
               try clear c20
               try clear c20b0
               try clear c20b1
               try clear p20
               try clear q20
               try clear hx20
               try clear c21
               try clear c21b0
               try clear c21b1
               try clear c22
               try clear c24
               try clear c24b0
               try clear c27
               try clear c27b0
               try clear c28
               try clear c28b0
               try clear q29
               try clear c30
               try clear c31
               try clear c31b0
               try clear hx198_0
               try clear hx205_0
               try clear hx206_0
               try clear hx207_0
               try clear p1
               try clear p19
               try clear p198
               try clear p2
               try clear p205
               try clear p206
               try clear p207
               try clear p6
               try clear q1
               try clear q19
               try clear q198
               try clear q205
               try clear q206
               try clear q207
               obtain ⟨kq, x97_24, rfl, HA, HJ24, HO_12, HB⟩ := hcut
               cases kq with
               | zero => exact absurd HA.out (by simp [solsticelaw06_WordsBegin.j2])
               | succ kj24 =>
                have H := HA.out
                clear HA
                simp only [solsticelaw06_WordsBegin.j2] at H
                by_cases c32 : x97_24 = true
                ·subst c32
                 have H1 : (if 0 ≤ x13_2 then (if x13_2 < (x12_2.length : Int) then (solsticelaw06_WordsBegin.l0 kj24 ji5 (wrap64 ((wrap64 (Int.tmod (IntKind.u64.wrap (a1)) (IntKind.u64.wrap (rd y195 (ji5))))) + t199)) ji19 l3 (rd y195 (ji5)) t200 (x12_2.set (x13_2 : Int).toNat (((rd x12_2 x13_2) - 32) % 256)) (wrap64 (x13_2 + 1))) else (none)) else (none)) = some r := by rw [if_pos rfl] at H; exact H
                 clear H
                 have H := H1
                 clear H1
                 by_cases c33 : 0 ≤ x13_2
                 ·rw [if_pos c33] at H
                  have c33b0 : decide (0 ≤ x13_2) = true := decide_eq_true c33
                  clear c33
                  by_cases c34 : x13_2 < (x12_2.length : Int)
                  ·rw [if_pos c34] at H
                   have c34b0 : decide (x13_2 < (x12_2.length : Int)) = true := decide_eq_true c34
                   clear c34
                   obtain ⟨y209, hy209⟩ : ∃ y_ : List Int, y_ = (x12_2.set (x13_2 : Int).toNat (((rd x12_2 x13_2) - 32) % 256)) := ⟨_, rfl⟩
                   replace H : (solsticelaw06_WordsBegin.l0 kj24 ji5 (wrap64 ((wrap64 (Int.tmod (IntKind.u64.wrap (a1)) (IntKind.u64.wrap (rd y195 (ji5))))) + t199)) ji19 l3 (rd y195 (ji5)) t200 y209 (wrap64 (x13_2 + 1))) = some r := by first | (rw [hy209]; with_reducible exact H) | (have H2_ := (Option.bind_some _ _).symm.trans H; rw [hy209]; with_reducible exact H2_) | (have H2_ := (Option.bind_some _ _).symm.trans H; with_reducible exact H2_) | with_reducible exact H | (rw [hy209]; exact H) | exact H
                   have Ny209 := Aside0.mk hy209
                   clear hy209
                   have H' := Aside0.mk H
                   clear H
                   have p208 : 0 ≤ (x13_2 : Int) := of_decide_eq_true (by first | (with_reducible assumption) | assumption)
                   have q208 : x13_2 < (x12_2.length : Int) := of_decide_eq_true (by first | (with_reducible assumption) | assumption)
                   obtain ⟨ad208, e208, hx208_0⟩ := Kd.at_int (Bd.R_reads' HO_12.out).2.2 x13_2 p208 q208
                   cases e208
                   replace p208 := eq_true p208
                   replace q208 := eq_true q208
                   have p35 : 0 ≤ (x13_2 : Int) := of_decide_eq_true (by first | (with_reducible assumption) | assumption)
                   have q35 : (x13_2 : Int) < ((x12_2.length : Int) : Int) := of_decide_eq_true (by first | (with_reducible assumption) | assumption)
                   obtain ⟨go35, co35, eo35, gb35, gl35, cl35, HG35⟩ := Bd.R_form HO_12.out (by omega)
                   (first | cases eo35 | (injection eo35 with ea_ en_ ec_; (first | subst ea_ | (injection ea_ with ea_; subst ea_)); subst ec_; clear en_))
                   have GB35 := Aside0.mk gb35
                   have GG35 := Aside0.mk HG35
                   clear gb35 gl35 HG35
                   (first | simp only [add_plain] at hx208_0 | skip)
                   obtain ⟨hx35_0, hf35_0⟩ := Bd.R_celln 0 HO_12.out (x13_2 : Int) p35 q35
                   replace p35 := eq_true p35
                   replace q35 := eq_true q35
                   have HP36 := Bd.R_putg HO_12.out (x13_2 : Int) (((rd x12_2 x13_2) - 32) % 256)
                   go_wp2_with (first | ((with_reducible refine gate_store (t := 5) (p := 105) rfl ?_); (try (rw [drewN_self wc]; generalize hq_ : World.drewN wc _ = wc; have n0_ := Aside0.mk (Bd.R_at hq_ HO_12.out); have n1_ := Aside0.mk (below_at hq_ HB.out); clear hq_ HO_12 HB; have HO_12 := n0_; have HB := n1_; clear n0_ n1_; (try (have HP36 := Bd.R_putg HO_12.out (x13_2 : Int) (((rd x12_2 x13_2) - 32) % 256))))); refine store_event (t := 5) (p := 105) (v := ?vo_w37) (w1 := (wc.setCell ⟨go35, (x13_2 : Int).toNat, none⟩ (.int .u8 (((rd x12_2 x13_2) - 32) % 256)))) ?hg ?ho ?hn ?hr ?_; (case ho => rfl); (case hg => rfl); (case hn => rfl); (case hr => first | (go_simp; done) | (go_simp; rfl)); intro w37 hw; have hg : wc.grownBy w37 (some go35) := (by rw [hw]; exact HP36.2); have hp_ : Bd.R 5 w37 w.heap.size (fun _ => True) (.slice (some ⟨go35, 0, none⟩) x12_2.length co26) y209 := (by rw [hw, Ny209.out]; exact HP36.1); clear HP36; have n0_ := Aside0.mk (hp_); have n1_ := Aside0.mk ((by rw [hw]; exact below_set (HB.out) GB35.out : Below w.heap.size w w37)); clear HO_12; clear HB; have HO_12 := n0_; have HB := n1_; clear n0_ n1_; clear hg hw hp_))
                   repeat (go_quiet (first | ((with_reducible refine gate_store (t := 5) (p := 105) rfl ?_); (try (rw [drewN_self wc]; generalize hq_ : World.drewN wc _ = wc; have n0_ := Aside0.mk (Bd.R_at hq_ HO_12.out); have n1_ := Aside0.mk (below_at hq_ HB.out); clear hq_ HO_12 HB; have HO_12 := n0_; have HB := n1_; clear n0_ n1_; (try (have HP36 := Bd.R_putg HO_12.out (x13_2 : Int) (((rd x12_2 x13_2) - 32) % 256))))); refine store_event (t := 5) (p := 105) (v := ?vo_w37) (w1 := (wc.setCell ⟨go35, (x13_2 : Int).toNat, none⟩ (.int .u8 (((rd x12_2 x13_2) - 32) % 256)))) ?hg ?ho ?hn ?hr ?_; (case ho => rfl); (case hg => rfl); (case hn => rfl); (case hr => first | (go_simp; done) | (go_simp; rfl)); intro w37 hw; have hg : wc.grownBy w37 (some go35) := (by rw [hw]; exact HP36.2); have hp_ : Bd.R 5 w37 w.heap.size (fun _ => True) (.slice (some ⟨go35, 0, none⟩) x12_2.length co26) y209 := (by rw [hw, Ny209.out]; exact HP36.1); clear HP36; have n0_ := Aside0.mk (hp_); have n1_ := Aside0.mk ((by rw [hw]; exact below_set (HB.out) GB35.out : Below w.heap.size w w37)); clear HO_12; clear HB; have HO_12 := n0_; have HB := n1_; clear n0_ n1_; clear hg hw hp_)); try go_wp2_with (first | ((with_reducible refine gate_store (t := 5) (p := 105) rfl ?_); (try (rw [drewN_self wc]; generalize hq_ : World.drewN wc _ = wc; have n0_ := Aside0.mk (Bd.R_at hq_ HO_12.out); have n1_ := Aside0.mk (below_at hq_ HB.out); clear hq_ HO_12 HB; have HO_12 := n0_; have HB := n1_; clear n0_ n1_; (try (have HP36 := Bd.R_putg HO_12.out (x13_2 : Int) (((rd x12_2 x13_2) - 32) % 256))))); refine store_event (t := 5) (p := 105) (v := ?vo_w37) (w1 := (wc.setCell ⟨go35, (x13_2 : Int).toNat, none⟩ (.int .u8 (((rd x12_2 x13_2) - 32) % 256)))) ?hg ?ho ?hn ?hr ?_; (case ho => rfl); (case hg => rfl); (case hn => rfl); (case hr => first | (go_simp; done) | (go_simp; rfl)); intro w37 hw; have hg : wc.grownBy w37 (some go35) := (by rw [hw]; exact HP36.2); have hp_ : Bd.R 5 w37 w.heap.size (fun _ => True) (.slice (some ⟨go35, 0, none⟩) x12_2.length co26) y209 := (by rw [hw, Ny209.out]; exact HP36.1); clear HP36; have n0_ := Aside0.mk (hp_); have n1_ := Aside0.mk ((by rw [hw]; exact below_set (HB.out) GB35.out : Below w.heap.size w w37)); clear HO_12; clear HB; have HO_12 := n0_; have HB := n1_; clear n0_ n1_; clear hg hw hp_)))
                   go_roundg kj24
                   case measure => have := HJ10.out; have := HK2.out; have := HJ24.out; omega
                   case rel => exact ⟨(y209), (wrap64 (x13_2 + 1)), (by first | rfl | (simp; done) | (simp [*]; done)), H', ⟨by have := HJ10.out; have := HK2.out; have := HJ24.out; omega⟩, ⟨by (with_reducible repeat (first | apply Bd.R_alloc | apply Bd.R_drewN | apply Bd.R_drew)); exact HO_12.out⟩, ⟨by repeat (first | (with_reducible first | exact HB.out | apply bA | apply bN | apply below_drew1) | exact HB.out)⟩⟩
                  ·rw [if_neg c34] at H
                   exact absurd H (by simp)
                 ·rw [if_neg c33] at H
                  exact absurd H (by simp)
                ·replace c32 := Bool.eq_false_iff.mpr c32
                 subst c32
                 have H1 : (if x13_2 < (l3.length : Int) then (if 0 ≤ x13_2 then (if rdOf false l3 x13_2 = true then (solsticelaw06_WordsBegin.l0 kj24 ji5 (wrap64 ((wrap64 (Int.tmod (IntKind.u64.wrap (a1)) (IntKind.u64.wrap (rd y195 (ji5))))) + t199)) ji19 l3 (rd y195 (ji5)) t200 x12_2 (wrap64 (x13_2 + 1))) else (if x13_2 < (x12_2.length : Int) then (if (rd x12_2 x13_2) ≥ 65 then (if (rd x12_2 x13_2) ≤ 90 then (solsticelaw06_WordsBegin.l0 kj24 ji5 (wrap64 ((wrap64 (Int.tmod (IntKind.u64.wrap (a1)) (IntKind.u64.wrap (rd y195 (ji5))))) + t199)) ji19 l3 (rd y195 (ji5)) t200 (x12_2.set (x13_2 : Int).toNat (((rd x12_2 x13_2) + 32) % 256)) (wrap64 (x13_2 + 1))) else (solsticelaw06_WordsBegin.l0 kj24 ji5 (wrap64 ((wrap64 (Int.tmod (IntKind.u64.wrap (a1)) (IntKind.u64.wrap (rd y195 (ji5))))) + t199)) ji19 l3 (rd y195 (ji5)) t200 x12_2 (wrap64 (x13_2 + 1)))) else (solsticelaw06_WordsBegin.l0 kj24 ji5 (wrap64 ((wrap64 (Int.tmod (IntKind.u64.wrap (a1)) (IntKind.u64.wrap (rd y195 (ji5))))) + t199)) ji19 l3 (rd y195 (ji5)) t200 x12_2 (wrap64 (x13_2 + 1)))) else (none))) else (none)) else (solsticelaw06_WordsBegin.l0 kj24 ji5 (wrap64 ((wrap64 (Int.tmod (IntKind.u64.wrap (a1)) (IntKind.u64.wrap (rd y195 (ji5))))) + t199)) ji19 l3 (rd y195 (ji5)) t200 x12_2 (wrap64 (x13_2 + 1)))) = some r := by rw [if_neg (show ¬ (false = true) by decide)] at H; exact H
                 clear H
                 have H := H1
                 clear H1
                 by_cases c38 : x13_2 < (l3.length : Int)
                 ·rw [if_pos c38] at H
                  have c38b0 : decide (x13_2 < (l3.length : Int)) = true := decide_eq_true c38
                  clear c38
                  by_cases c39 : 0 ≤ x13_2
                  ·rw [if_pos c39] at H
                   have c39b0 : decide (0 ≤ x13_2) = true := decide_eq_true c39
                   clear c39
                   obtain ⟨bq40, hbq40⟩ : ∃ b_ : Bool, b_ = (rdOf false l3 x13_2) := ⟨_, rfl⟩
                   replace H : (if bq40 = true then (solsticelaw06_WordsBegin.l0 kj24 ji5 (wrap64 ((wrap64 (Int.tmod (IntKind.u64.wrap (a1)) (IntKind.u64.wrap (rd y195 (ji5))))) + t199)) ji19 l3 (rd y195 (ji5)) t200 x12_2 (wrap64 (x13_2 + 1))) else (if x13_2 < (x12_2.length : Int) then (if (rd x12_2 x13_2) ≥ 65 then (if (rd x12_2 x13_2) ≤ 90 then (solsticelaw06_WordsBegin.l0 kj24 ji5 (wrap64 ((wrap64 (Int.tmod (IntKind.u64.wrap (a1)) (IntKind.u64.wrap (rd y195 (ji5))))) + t199)) ji19 l3 (rd y195 (ji5)) t200 (x12_2.set (x13_2 : Int).toNat (((rd x12_2 x13_2) + 32) % 256)) (wrap64 (x13_2 + 1))) else (solsticelaw06_WordsBegin.l0 kj24 ji5 (wrap64 ((wrap64 (Int.tmod (IntKind.u64.wrap (a1)) (IntKind.u64.wrap (rd y195 (ji5))))) + t199)) ji19 l3 (rd y195 (ji5)) t200 x12_2 (wrap64 (x13_2 + 1)))) else (solsticelaw06_WordsBegin.l0 kj24 ji5 (wrap64 ((wrap64 (Int.tmod (IntKind.u64.wrap (a1)) (IntKind.u64.wrap (rd y195 (ji5))))) + t199)) ji19 l3 (rd y195 (ji5)) t200 x12_2 (wrap64 (x13_2 + 1)))) else (none))) = some r := by rw [← hbq40] at H; exact H
                   have Nbq40 := Aside0.mk hbq40
                   clear hbq40
                   by_cases c41 : bq40 = true
                   ·subst c41
                    have H1 : (solsticelaw06_WordsBegin.l0 kj24 ji5 (wrap64 ((wrap64 (Int.tmod (IntKind.u64.wrap (a1)) (IntKind.u64.wrap (rd y195 (ji5))))) + t199)) ji19 l3 (rd y195 (ji5)) t200 x12_2 (wrap64 (x13_2 + 1))) = some r := by rw [if_pos rfl] at H; exact H
                    clear H
                    have H := H1
                    clear H1
                    have H' := Aside0.mk H
                    clear H
                    have p210 : 0 ≤ (x13_2 : Int) := of_decide_eq_true (by first | (with_reducible assumption) | assumption)
                    have q210 : x13_2 < (l3.length : Int) := of_decide_eq_true (by first | (with_reducible assumption) | assumption)
                    obtain ⟨ad210, e210, hx210_0⟩ := Kd.at_bool HR3.out x13_2 p210 q210
                    (try rw [← Nbq40.out] at hx210_0)
                    cases e210
                    replace hx210_0 := (HB.out.cell (World.block_lt_of_cell? w _ hx210_0)).trans hx210_0
                    replace p210 := eq_true p210
                    replace q210 := eq_true q210
                    go_wp2
                    repeat (go_quiet (fail); try go_wp2)
                    go_roundg kj24
                    case measure => have := HJ10.out; have := HK2.out; have := HJ24.out; omega
                    case rel => exact ⟨(x12_2), (wrap64 (x13_2 + 1)), (by first | rfl | (simp; done) | (simp [*]; done)), H', ⟨by have := HJ10.out; have := HK2.out; have := HJ24.out; omega⟩, ⟨by (with_reducible repeat (first | apply Bd.R_alloc | apply Bd.R_drewN | apply Bd.R_drew)); exact HO_12.out⟩, ⟨by repeat (first | (with_reducible first | exact HB.out | apply bA | apply bN | apply below_drew1) | exact HB.out)⟩⟩
                   ·replace c41 := Bool.eq_false_iff.mpr c41
                    subst c41
                    have H1 : (if x13_2 < (x12_2.length : Int) then (if (rd x12_2 x13_2) ≥ 65 then (if (rd x12_2 x13_2) ≤ 90 then (solsticelaw06_WordsBegin.l0 kj24 ji5 (wrap64 ((wrap64 (Int.tmod (IntKind.u64.wrap (a1)) (IntKind.u64.wrap (rd y195 (ji5))))) + t199)) ji19 l3 (rd y195 (ji5)) t200 (x12_2.set (x13_2 : Int).toNat (((rd x12_2 x13_2) + 32) % 256)) (wrap64 (x13_2 + 1))) else (solsticelaw06_WordsBegin.l0 kj24 ji5 (wrap64 ((wrap64 (Int.tmod (IntKind.u64.wrap (a1)) (IntKind.u64.wrap (rd y195 (ji5))))) + t199)) ji19 l3 (rd y195 (ji5)) t200 x12_2 (wrap64 (x13_2 + 1)))) else (solsticelaw06_WordsBegin.l0 kj24 ji5 (wrap64 ((wrap64 (Int.tmod (IntKind.u64.wrap (a1)) (IntKind.u64.wrap (rd y195 (ji5))))) + t199)) ji19 l3 (rd y195 (ji5)) t200 x12_2 (wrap64 (x13_2 + 1)))) else (none)) = some r := by rw [if_neg (show ¬ (false = true) by decide)] at H; exact H
                    clear H
                    have H := H1
                    clear H1
                    by_cases c42 : x13_2 < (x12_2.length : Int)
                    ·rw [if_pos c42] at H
                     have c42b0 : decide (x13_2 < (x12_2.length : Int)) = true := decide_eq_true c42
                     clear c42
                     by_cases c43 : (rd x12_2 x13_2) ≥ 65
                     ·rw [if_pos c43] at H
                      have c43b0 : decide (65 ≤ (rd x12_2 x13_2)) = true := decide_eq_true c43
                      clear c43
                      by_cases c44 : (rd x12_2 x13_2) ≤ 90
                      ·rw [if_pos c44] at H
                       have c44b0 : decide ((rd x12_2 x13_2) ≤ 90) = true := decide_eq_true c44
                       clear c44
                       obtain ⟨y214, hy214⟩ : ∃ y_ : List Int, y_ = (x12_2.set (x13_2 : Int).toNat (((rd x12_2 x13_2) + 32) % 256)) := ⟨_, rfl⟩
                       replace H : (solsticelaw06_WordsBegin.l0 kj24 ji5 (wrap64 ((wrap64 (Int.tmod (IntKind.u64.wrap (a1)) (IntKind.u64.wrap (rd y195 (ji5))))) + t199)) ji19 l3 (rd y195 (ji5)) t200 y214 (wrap64 (x13_2 + 1))) = some r := by first | (rw [hy214]; with_reducible exact H) | (have H2_ := (Option.bind_some _ _).symm.trans H; rw [hy214]; with_reducible exact H2_) | (have H2_ := (Option.bind_some _ _).symm.trans H; with_reducible exact H2_) | with_reducible exact H | (rw [hy214]; exact H) | exact H
                       have Ny214 := Aside0.mk hy214
                       clear hy214
                       have H' := Aside0.mk H
                       clear H
                       have p210 : 0 ≤ (x13_2 : Int) := of_decide_eq_true (by first | (with_reducible assumption) | assumption)
                       have q210 : x13_2 < (l3.length : Int) := of_decide_eq_true (by first | (with_reducible assumption) | assumption)
                       obtain ⟨ad210, e210, hx210_0⟩ := Kd.at_bool HR3.out x13_2 p210 q210
                       (try rw [← Nbq40.out] at hx210_0)
                       cases e210
                       replace hx210_0 := (HB.out.cell (World.block_lt_of_cell? w _ hx210_0)).trans hx210_0
                       replace p210 := eq_true p210
                       replace q210 := eq_true q210
                       have p211 : 0 ≤ (x13_2 : Int) := of_decide_eq_true (by first | (with_reducible assumption) | assumption)
                       have q211 : x13_2 < (x12_2.length : Int) := of_decide_eq_true (by first | (with_reducible assumption) | assumption)
                       obtain ⟨ad211, e211, hx211_0⟩ := Kd.at_int (Bd.R_reads' HO_12.out).2.2 x13_2 p211 q211
                       cases e211
                       replace p211 := eq_true p211
                       replace q211 := eq_true q211
                       have p212 : 0 ≤ (x13_2 : Int) := of_decide_eq_true (by first | (with_reducible assumption) | assumption)
                       have q212 : x13_2 < (x12_2.length : Int) := of_decide_eq_true (by first | (with_reducible assumption) | assumption)
                       obtain ⟨ad212, e212, hx212_0⟩ := Kd.at_int (Bd.R_reads' HO_12.out).2.2 x13_2 p212 q212
                       obtain rfl : ad211 = ad212 := (by injection e212)
                       replace p212 := eq_true p212
                       replace q212 := eq_true q212
                       have p213 : 0 ≤ (x13_2 : Int) := of_decide_eq_true (by first | (with_reducible assumption) | assumption)
                       have q213 : x13_2 < (x12_2.length : Int) := of_decide_eq_true (by first | (with_reducible assumption) | assumption)
                       obtain ⟨ad213, e213, hx213_0⟩ := Kd.at_int (Bd.R_reads' HO_12.out).2.2 x13_2 p213 q213
                       obtain rfl : ad211 = ad213 := (by injection e213)
                       replace p213 := eq_true p213
                       replace q213 := eq_true q213
                       have p45 : 0 ≤ (x13_2 : Int) := of_decide_eq_true (by first | (with_reducible assumption) | assumption)
                       have q45 : (x13_2 : Int) < ((x12_2.length : Int) : Int) := of_decide_eq_true (by first | (with_reducible assumption) | assumption)
                       obtain ⟨go45, co45, eo45, gb45, gl45, cl45, HG45⟩ := Bd.R_form HO_12.out (by omega)
                       (first | cases eo45 | (injection eo45 with ea_ en_ ec_; (first | subst ea_ | (injection ea_ with ea_; subst ea_)); subst ec_; clear en_))
                       have GB45 := Aside0.mk gb45
                       have GG45 := Aside0.mk HG45
                       clear gb45 gl45 HG45
                       (first | simp only [add_plain] at hx211_0 | skip)
                       (first | simp only [add_plain] at hx212_0 | skip)
                       (first | simp only [add_plain] at hx213_0 | skip)
                       obtain ⟨hx45_0, hf45_0⟩ := Bd.R_celln 0 HO_12.out (x13_2 : Int) p45 q45
                       replace p45 := eq_true p45
                       replace q45 := eq_true q45
                       have HP46 := Bd.R_putg HO_12.out (x13_2 : Int) (((rd x12_2 x13_2) + 32) % 256)
                       go_wp2_with (first | ((with_reducible refine gate_store (t := 5) (p := 138) rfl ?_); (try (rw [drewN_self wc]; generalize hq_ : World.drewN wc _ = wc; have n0_ := Aside0.mk (Bd.R_at hq_ HO_12.out); have n1_ := Aside0.mk (below_at hq_ HB.out); clear hq_ HO_12 HB; have HO_12 := n0_; have HB := n1_; clear n0_ n1_; (try (have HP46 := Bd.R_putg HO_12.out (x13_2 : Int) (((rd x12_2 x13_2) + 32) % 256))))); refine store_event (t := 5) (p := 138) (v := ?vo_w47) (w1 := (wc.setCell ⟨go45, (x13_2 : Int).toNat, none⟩ (.int .u8 (((rd x12_2 x13_2) + 32) % 256)))) ?hg ?ho ?hn ?hr ?_; (case ho => rfl); (case hg => rfl); (case hn => rfl); (case hr => first | (go_simp; done) | (go_simp; rfl)); intro w47 hw; have hg : wc.grownBy w47 (some go45) := (by rw [hw]; exact HP46.2); have hp_ : Bd.R 5 w47 w.heap.size (fun _ => True) (.slice (some ⟨go45, 0, none⟩) x12_2.length co26) y214 := (by rw [hw, Ny214.out]; exact HP46.1); clear HP46; have n0_ := Aside0.mk (hp_); have n1_ := Aside0.mk ((by rw [hw]; exact below_set (HB.out) GB45.out : Below w.heap.size w w47)); clear HO_12; clear HB; have HO_12 := n0_; have HB := n1_; clear n0_ n1_; clear hg hw hp_))
                       repeat (go_quiet (first | ((with_reducible refine gate_store (t := 5) (p := 138) rfl ?_); (try (rw [drewN_self wc]; generalize hq_ : World.drewN wc _ = wc; have n0_ := Aside0.mk (Bd.R_at hq_ HO_12.out); have n1_ := Aside0.mk (below_at hq_ HB.out); clear hq_ HO_12 HB; have HO_12 := n0_; have HB := n1_; clear n0_ n1_; (try (have HP46 := Bd.R_putg HO_12.out (x13_2 : Int) (((rd x12_2 x13_2) + 32) % 256))))); refine store_event (t := 5) (p := 138) (v := ?vo_w47) (w1 := (wc.setCell ⟨go45, (x13_2 : Int).toNat, none⟩ (.int .u8 (((rd x12_2 x13_2) + 32) % 256)))) ?hg ?ho ?hn ?hr ?_; (case ho => rfl); (case hg => rfl); (case hn => rfl); (case hr => first | (go_simp; done) | (go_simp; rfl)); intro w47 hw; have hg : wc.grownBy w47 (some go45) := (by rw [hw]; exact HP46.2); have hp_ : Bd.R 5 w47 w.heap.size (fun _ => True) (.slice (some ⟨go45, 0, none⟩) x12_2.length co26) y214 := (by rw [hw, Ny214.out]; exact HP46.1); clear HP46; have n0_ := Aside0.mk (hp_); have n1_ := Aside0.mk ((by rw [hw]; exact below_set (HB.out) GB45.out : Below w.heap.size w w47)); clear HO_12; clear HB; have HO_12 := n0_; have HB := n1_; clear n0_ n1_; clear hg hw hp_)); try go_wp2_with (first | ((with_reducible refine gate_store (t := 5) (p := 138) rfl ?_); (try (rw [drewN_self wc]; generalize hq_ : World.drewN wc _ = wc; have n0_ := Aside0.mk (Bd.R_at hq_ HO_12.out); have n1_ := Aside0.mk (below_at hq_ HB.out); clear hq_ HO_12 HB; have HO_12 := n0_; have HB := n1_; clear n0_ n1_; (try (have HP46 := Bd.R_putg HO_12.out (x13_2 : Int) (((rd x12_2 x13_2) + 32) % 256))))); refine store_event (t := 5) (p := 138) (v := ?vo_w47) (w1 := (wc.setCell ⟨go45, (x13_2 : Int).toNat, none⟩ (.int .u8 (((rd x12_2 x13_2) + 32) % 256)))) ?hg ?ho ?hn ?hr ?_; (case ho => rfl); (case hg => rfl); (case hn => rfl); (case hr => first | (go_simp; done) | (go_simp; rfl)); intro w47 hw; have hg : wc.grownBy w47 (some go45) := (by rw [hw]; exact HP46.2); have hp_ : Bd.R 5 w47 w.heap.size (fun _ => True) (.slice (some ⟨go45, 0, none⟩) x12_2.length co26) y214 := (by rw [hw, Ny214.out]; exact HP46.1); clear HP46; have n0_ := Aside0.mk (hp_); have n1_ := Aside0.mk ((by rw [hw]; exact below_set (HB.out) GB45.out : Below w.heap.size w w47)); clear HO_12; clear HB; have HO_12 := n0_; have HB := n1_; clear n0_ n1_; clear hg hw hp_)))
                       go_roundg kj24
                       case measure => have := HJ10.out; have := HK2.out; have := HJ24.out; omega
                       case rel => exact ⟨(y214), (wrap64 (x13_2 + 1)), (by first | rfl | (simp; done) | (simp [*]; done)), H', ⟨by have := HJ10.out; have := HK2.out; have := HJ24.out; omega⟩, ⟨by (with_reducible repeat (first | apply Bd.R_alloc | apply Bd.R_drewN | apply Bd.R_drew)); exact HO_12.out⟩, ⟨by repeat (first | (with_reducible first | exact HB.out | apply bA | apply bN | apply below_drew1) | exact HB.out)⟩⟩
                      ·rw [if_neg c44] at H
                       have c44b0 : decide ((rd x12_2 x13_2) ≤ 90) = false := decide_eq_false c44
                       clear c44
                       have H' := Aside0.mk H
                       clear H
                       have p210 : 0 ≤ (x13_2 : Int) := of_decide_eq_true (by first | (with_reducible assumption) | assumption)
                       have q210 : x13_2 < (l3.length : Int) := of_decide_eq_true (by first | (with_reducible assumption) | assumption)
                       obtain ⟨ad210, e210, hx210_0⟩ := Kd.at_bool HR3.out x13_2 p210 q210
                       (try rw [← Nbq40.out] at hx210_0)
                       cases e210
                       replace hx210_0 := (HB.out.cell (World.block_lt_of_cell? w _ hx210_0)).trans hx210_0
                       replace p210 := eq_true p210
                       replace q210 := eq_true q210
                       have p211 : 0 ≤ (x13_2 : Int) := of_decide_eq_true (by first | (with_reducible assumption) | assumption)
                       have q211 : x13_2 < (x12_2.length : Int) := of_decide_eq_true (by first | (with_reducible assumption) | assumption)
                       obtain ⟨ad211, e211, hx211_0⟩ := Kd.at_int (Bd.R_reads' HO_12.out).2.2 x13_2 p211 q211
                       cases e211
                       replace p211 := eq_true p211
                       replace q211 := eq_true q211
                       have p212 : 0 ≤ (x13_2 : Int) := of_decide_eq_true (by first | (with_reducible assumption) | assumption)
                       have q212 : x13_2 < (x12_2.length : Int) := of_decide_eq_true (by first | (with_reducible assumption) | assumption)
                       obtain ⟨ad212, e212, hx212_0⟩ := Kd.at_int (Bd.R_reads' HO_12.out).2.2 x13_2 p212 q212
                       obtain rfl : ad211 = ad212 := (by injection e212)
                       replace p212 := eq_true p212
                       replace q212 := eq_true q212
                       go_wp2
                       repeat (go_quiet (fail); try go_wp2)
                       go_roundg kj24
                       case measure => have := HJ10.out; have := HK2.out; have := HJ24.out; omega
                       case rel => exact ⟨(x12_2), (wrap64 (x13_2 + 1)), (by first | rfl | (simp; done) | (simp [*]; done)), H', ⟨by have := HJ10.out; have := HK2.out; have := HJ24.out; omega⟩, ⟨by (with_reducible repeat (first | apply Bd.R_alloc | apply Bd.R_drewN | apply Bd.R_drew)); exact HO_12.out⟩, ⟨by repeat (first | (with_reducible first | exact HB.out | apply bA | apply bN | apply below_drew1) | exact HB.out)⟩⟩
                     ·rw [if_neg c43] at H
                      have c43b0 : decide (65 ≤ (rd x12_2 x13_2)) = false := decide_eq_false c43
                      clear c43
                      have H' := Aside0.mk H
                      clear H
                      have p210 : 0 ≤ (x13_2 : Int) := of_decide_eq_true (by first | (with_reducible assumption) | assumption)
                      have q210 : x13_2 < (l3.length : Int) := of_decide_eq_true (by first | (with_reducible assumption) | assumption)
                      obtain ⟨ad210, e210, hx210_0⟩ := Kd.at_bool HR3.out x13_2 p210 q210
                      (try rw [← Nbq40.out] at hx210_0)
                      cases e210
                      replace hx210_0 := (HB.out.cell (World.block_lt_of_cell? w _ hx210_0)).trans hx210_0
                      replace p210 := eq_true p210
                      replace q210 := eq_true q210
                      have p211 : 0 ≤ (x13_2 : Int) := of_decide_eq_true (by first | (with_reducible assumption) | assumption)
                      have q211 : x13_2 < (x12_2.length : Int) := of_decide_eq_true (by first | (with_reducible assumption) | assumption)
                      obtain ⟨ad211, e211, hx211_0⟩ := Kd.at_int (Bd.R_reads' HO_12.out).2.2 x13_2 p211 q211
                      cases e211
                      replace p211 := eq_true p211
                      replace q211 := eq_true q211
                      go_wp2
                      repeat (go_quiet (fail); try go_wp2)
                      go_roundg kj24
                      case measure => have := HJ10.out; have := HK2.out; have := HJ24.out; omega
                      case rel => exact ⟨(x12_2), (wrap64 (x13_2 + 1)), (by first | rfl | (simp; done) | (simp [*]; done)), H', ⟨by have := HJ10.out; have := HK2.out; have := HJ24.out; omega⟩, ⟨by (with_reducible repeat (first | apply Bd.R_alloc | apply Bd.R_drewN | apply Bd.R_drew)); exact HO_12.out⟩, ⟨by repeat (first | (with_reducible first | exact HB.out | apply bA | apply bN | apply below_drew1) | exact HB.out)⟩⟩
                    ·rw [if_neg c42] at H
                     exact absurd H (by simp)
                  ·rw [if_neg c39] at H
                   exact absurd H (by simp)
                 ·rw [if_neg c38] at H
                  have c38b0 : decide (x13_2 < (l3.length : Int)) = false := decide_eq_false c38
                  clear c38
                  have H' := Aside0.mk H
                  clear H
                  go_wp2
                  repeat (go_quiet (fail); try go_wp2)
                  go_roundg kj24
                  case measure => have := HJ10.out; have := HK2.out; have := HJ24.out; omega
                  case rel => exact ⟨(x12_2), (wrap64 (x13_2 + 1)), (by first | rfl | (simp; done) | (simp [*]; done)), H', ⟨by have := HJ10.out; have := HK2.out; have := HJ24.out; omega⟩, ⟨by (with_reducible repeat (first | apply Bd.R_alloc | apply Bd.R_drewN | apply Bd.R_drew)); exact HO_12.out⟩, ⟨by repeat (first | (with_reducible first | exact HB.out | apply bA | apply bN | apply below_drew1) | exact HB.out)⟩⟩
             ·rw [if_neg c24] at H
              have c24b0 : decide (x13_2 < (x12_2.length : Int)) = false := decide_eq_false c24
              clear c24
              have H' := Aside0.mk H
              clear H
              obtain ⟨Ao48, co48, eo48⟩ := Bd.R_slice HO_12.out
              subst eo48
              go_wp2
              repeat (go_quiet (fail); try go_wp2)
              go_loopg [14, 15] k2 (fun kq v14 v15 w' => ∃ (x14_3 : Int) (x15_3 : Int), v14 = .int .i64 x14_3 ∧ v15 = .int .i64 x15_3 ∧ Aside0 (solsticelaw06_WordsBegin.l1 kq ji5 (wrap64 ((wrap64 (Int.tmod (IntKind.u64.wrap (a1)) (IntKind.u64.wrap (rd y195 (ji5))))) + t199)) ji19 (rd y195 (ji5)) t200 x12_2 x14_3 x15_3 = some r) ∧ Aside0 (kq ≤ k2) ∧ Aside0 (Bd.R 5 w' w.heap.size (fun _ => True) (.slice Ao48 x12_2.length co48) x12_2) ∧ Aside0 (Below w.heap.size w w'))
              case atStart => exact ⟨(0), (0), (by first | rfl | (simp; done) | (simp [*]; done)), (by first | rfl | (simp; done) | (simp [*]; done)), H', ⟨Nat.le_refl _⟩, ⟨by (with_reducible repeat (first | apply Bd.R_alloc | apply Bd.R_drewN | apply Bd.R_drew)); exact HO_12.out⟩, ⟨by repeat (first | (with_reducible first | exact HB.out | apply bA | apply bN | apply below_drew1) | exact HB.out)⟩⟩
              case round => as_aux_lemma =>
               clear H'
               try clear c1
               try clear p1
               try clear q1
               try clear hx1
               try clear c2
               try clear p2
               try clear q2
               try clear hx2
               try clear c3
               try clear p3
               try clear q3
               try clear hx3
               try clear c4
               try clear p4
               try clear q4
               try clear hx4
               try clear hf4
               try clear c6
               try clear c6b0
               try clear p6
               try clear c7
               try clear c7b0
               try clear c8
               try clear c8b0
               try clear c8b1
               try clear c16
               try clear c16b0
               try clear c16b1
               try clear c17
               try clear c18
               try clear c18b0
               try clear c18b1
               try clear p19
               try clear q19
               try clear hx19
               try clear c20
               try clear c20b0
               try clear c20b1
               try clear p20
               try clear q20
               try clear hx20
               try clear c21
               try clear c21b0
               try clear c21b1
               try clear p21
               try clear q21
               try clear hx21
               try clear c22
               try clear c24
               try clear c24b0
               try clear c27
               try clear c27b0
               try clear c28
               try clear c28b0
               try clear q29
               try clear c30
               try clear c31
               try clear c31b0
               try clear c32
               try clear c33
               try clear c33b0
               try clear c34
               try clear c34b0
               try clear p35
               try clear q35
               try clear hx35
               try clear hf35
               try clear c38
               try clear c38b0
               try clear c39
               try clear c39b0
               try clear q40
               try clear c41
               try clear c42
               try clear c42b0
               try clear c43
               try clear c43b0
               try clear c44
               try clear c44b0
               try clear p45
               try clear q45
               try clear hx45
               try clear hf45
               try clear hx198_0
               try clear hx205_0
               try clear hx206_0
               try clear hx207_0
               try clear hx208_0
               try clear hx210_0
               try clear hx211_0
               try clear hx212_0
               try clear hx213_0
               try clear hx35_0
               try clear hx45_0
               try clear p1
               try clear p19
               try clear p198
               try clear p2
               try clear p20
               try clear p205
               try clear p206
               try clear p207
               try clear p208
               try clear p210
               try clear p211
               try clear p212
               try clear p213
               try clear p35
               try clear p45
               try clear p6
               try clear q1
               try clear q19
               try clear q198
               try clear q2
               try clear q20
               try clear q205
               try clear q206
               try clear q207
               try clear q208
               try clear q210
               try clear q211
               try clear q212
               try clear q213
               try clear q29
               try clear q35
               try clear q45
               obtain ⟨x14_3, x15_3, rfl, rfl, HA, HK3, HO_12, HB⟩ := hrel
               cases gk with
               | zero => exact absurd HA.out (by simp [solsticelaw06_WordsBegin.l1])
               | succ k3 =>
                have H := HA.out
                clear HA
                simp only [solsticelaw06_WordsBegin.l1] at H
                by_cases c49 : x15_3 < (rd y195 (ji5))
                ·rw [if_pos c49] at H
                 have c49b0 : decide (x15_3 < (rd y195 (ji5))) = true := decide_eq_true c49
                 clear c49
                 replace H := Option.bind_eq_some_iff.mp H
                 obtain ⟨t215, A500, H⟩ := H
                 (try dsimp only at H)
                 have A50 := Aside0.mk A500
                 clear A500
                 replace H := Option.bind_eq_some_iff.mp H
                 obtain ⟨⟨t216, t217⟩, A510, H⟩ := H
                 (try dsimp only at H)
                 have A51 := Aside0.mk A510
                 clear A510
                 by_cases c52 : t217 = 0
                 ·rw [if_pos c52] at H
                  have c52b0 : (t217 == 0) = true := beq_iff_eq.mpr c52
                  have c52b1 : (t217 != 0) = false := bne_eq_false_iff_eq.mpr c52
                  clear c52
                  replace H := Option.bind_eq_some_iff.mp H
                  obtain ⟨t218, A530, H⟩ := H
                  (try dsimp only at H)
                  have A53 := Aside0.mk A530
                  clear A530
                  by_cases c54 : t218 = true
                  ·subst c54
                   have H1 : (solsticelaw06_WordsBegin.l1 k3 ji5 (wrap64 ((wrap64 (Int.tmod (IntKind.u64.wrap (a1)) (IntKind.u64.wrap (rd y195 (ji5))))) + t199)) ji19 (rd y195 (ji5)) t200 x12_2 (wrap64 (x14_3 + 1)) (wrap64 (x15_3 + 1))) = some r := by rw [if_pos rfl] at H; exact H
                   clear H
                   have H := H1
                   clear H1
                   have H' := Aside0.mk H
                   clear H
                   go_wp2_with (first | (go_at_call 7; (with_reducible refine (solsticelaw06_first.calls ji5 t215 _ A50.out).mono ?_); rintro e w' ⟨rfl, ⟨nd, rfl⟩⟩; (try first | exact ⟨rfl, _, World.drewN_drewN _ _ _⟩ | exact ⟨rfl, _, Eq.trans (World.drewN_drewN _ _ _) (congrArg (World.drewN _) (Nat.add_assoc _ _ _))⟩)) | (go_at_call 8; (with_reducible refine (words_Name.calls ji5 (wrap64 (x15_3 + t215)) t216 t217 _ ?side1 A51.out).mono ?_); (case side1 => exact GW.on HG.out (by repeat (first | (with_reducible first | exact HB.out | apply bA | apply bN | apply below_drew1) | exact HB.out))); rintro e w55 ⟨rfl, hb⟩; have n0_ := Aside0.mk (Bd.R_below (by (with_reducible repeat (first | apply Bd.R_alloc | apply Bd.R_drewN | apply Bd.R_drew)); exact HO_12.out) hb); have n1_ := Aside0.mk (below_step (by repeat (first | (with_reducible first | exact HB.out | apply bA | apply bN | apply below_drew1) | exact HB.out)) hb); clear HO_12; clear HB; have HO_12 := n0_; have HB := n1_; clear n0_ n1_; (try clear hb); (try clear hb2); (try clear hk); (try clear hi); have hcv56 := Bd.R_string (P := Tryd.prog) Tryd.underlying36 Tryd.underlying5 Tryd.underlying9 HO_12.out) | (go_at_call 11; (with_reducible refine (solsticeref01_Begins.calls k3 (strOfNums x12_2) t216 true _ A53.out).mono ?_); rintro e w' ⟨rfl, ⟨nd, rfl⟩⟩; (try first | exact ⟨rfl, _, World.drewN_drewN _ _ _⟩ | exact ⟨rfl, _, Eq.trans (World.drewN_drewN _ _ _) (congrArg (World.drewN _) (Nat.add_assoc _ _ _))⟩)))
                   repeat (go_quiet (first | (go_at_call 7; (with_reducible refine (solsticelaw06_first.calls ji5 t215 _ A50.out).mono ?_); rintro e w' ⟨rfl, ⟨nd, rfl⟩⟩; (try first | exact ⟨rfl, _, World.drewN_drewN _ _ _⟩ | exact ⟨rfl, _, Eq.trans (World.drewN_drewN _ _ _) (congrArg (World.drewN _) (Nat.add_assoc _ _ _))⟩)) | (go_at_call 8; (with_reducible refine (words_Name.calls ji5 (wrap64 (x15_3 + t215)) t216 t217 _ ?side1 A51.out).mono ?_); (case side1 => exact GW.on HG.out (by repeat (first | (with_reducible first | exact HB.out | apply bA | apply bN | apply below_drew1) | exact HB.out))); rintro e w55 ⟨rfl, hb⟩; have n0_ := Aside0.mk (Bd.R_below (by (with_reducible repeat (first | apply Bd.R_alloc | apply Bd.R_drewN | apply Bd.R_drew)); exact HO_12.out) hb); have n1_ := Aside0.mk (below_step (by repeat (first | (with_reducible first | exact HB.out | apply bA | apply bN | apply below_drew1) | exact HB.out)) hb); clear HO_12; clear HB; have HO_12 := n0_; have HB := n1_; clear n0_ n1_; (try clear hb); (try clear hb2); (try clear hk); (try clear hi); have hcv56 := Bd.R_string (P := Tryd.prog) Tryd.underlying36 Tryd.underlying5 Tryd.underlying9 HO_12.out) | (go_at_call 11; (with_reducible refine (solsticeref01_Begins.calls k3 (strOfNums x12_2) t216 true _ A53.out).mono ?_); rintro e w' ⟨rfl, ⟨nd, rfl⟩⟩; (try first | exact ⟨rfl, _, World.drewN_drewN _ _ _⟩ | exact ⟨rfl, _, Eq.trans (World.drewN_drewN _ _ _) (congrArg (World.drewN _) (Nat.add_assoc _ _ _))⟩))); try go_wp2_with (first | (go_at_call 7; (with_reducible refine (solsticelaw06_first.calls ji5 t215 _ A50.out).mono ?_); rintro e w' ⟨rfl, ⟨nd, rfl⟩⟩; (try first | exact ⟨rfl, _, World.drewN_drewN _ _ _⟩ | exact ⟨rfl, _, Eq.trans (World.drewN_drewN _ _ _) (congrArg (World.drewN _) (Nat.add_assoc _ _ _))⟩)) | (go_at_call 8; (with_reducible refine (words_Name.calls ji5 (wrap64 (x15_3 + t215)) t216 t217 _ ?side1 A51.out).mono ?_); (case side1 => exact GW.on HG.out (by repeat (first | (with_reducible first | exact HB.out | apply bA | apply bN | apply below_drew1) | exact HB.out))); rintro e w55 ⟨rfl, hb⟩; have n0_ := Aside0.mk (Bd.R_below (by (with_reducible repeat (first | apply Bd.R_alloc | apply Bd.R_drewN | apply Bd.R_drew)); exact HO_12.out) hb); have n1_ := Aside0.mk (below_step (by repeat (first | (with_reducible first | exact HB.out | apply bA | apply bN | apply below_drew1) | exact HB.out)) hb); clear HO_12; clear HB; have HO_12 := n0_; have HB := n1_; clear n0_ n1_; (try clear hb); (try clear hb2); (try clear hk); (try clear hi); have hcv56 := Bd.R_string (P := Tryd.prog) Tryd.underlying36 Tryd.underlying5 Tryd.underlying9 HO_12.out) | (go_at_call 11; (with_reducible refine (solsticeref01_Begins.calls k3 (strOfNums x12_2) t216 true _ A53.out).mono ?_); rintro e w' ⟨rfl, ⟨nd, rfl⟩⟩; (try first | exact ⟨rfl, _, World.drewN_drewN _ _ _⟩ | exact ⟨rfl, _, Eq.trans (World.drewN_drewN _ _ _) (congrArg (World.drewN _) (Nat.add_assoc _ _ _))⟩))))
                   go_roundg k3
                   case measure => have := HJ10.out; have := HK2.out; have := HK3.out; omega
                   case rel => exact ⟨(wrap64 (x14_3 + 1)), (wrap64 (x15_3 + 1)), (by first | rfl | (simp; done) | (simp [*]; done)), (by first | rfl | (simp; done) | (simp [*]; done)), H', ⟨by have := HJ10.out; have := HK2.out; have := HK3.out; omega⟩, ⟨by (with_reducible repeat (first | apply Bd.R_alloc | apply Bd.R_drewN | apply Bd.R_drew)); exact HO_12.out⟩, ⟨by repeat (first | (with_reducible first | exact HB.out | apply bA | apply bN | apply below_drew1) | exact HB.out)⟩⟩
                  ·replace c54 := Bool.eq_false_iff.mpr c54
                   subst c54
                   have H1 : (solsticelaw06_WordsBegin.l1 k3 ji5 (wrap64 ((wrap64 (Int.tmod (IntKind.u64.wrap (a1)) (IntKind.u64.wrap (rd y195 (ji5))))) + t199)) ji19 (rd y195 (ji5)) t200 x12_2 x14_3 (wrap64 (x15_3 + 1))) = some r := by rw [if_neg (show ¬ (false = true) by decide)] at H; exact H
                   clear H
                   have H := H1
                   clear H1
                   have H' := Aside0.mk H
                   clear H
                   go_wp2_with (first | (go_at_call 7; (with_reducible refine (solsticelaw06_first.calls ji5 t215 _ A50.out).mono ?_); rintro e w' ⟨rfl, ⟨nd, rfl⟩⟩; (try first | exact ⟨rfl, _, World.drewN_drewN _ _ _⟩ | exact ⟨rfl, _, Eq.trans (World.drewN_drewN _ _ _) (congrArg (World.drewN _) (Nat.add_assoc _ _ _))⟩)) | (go_at_call 8; (with_reducible refine (words_Name.calls ji5 (wrap64 (x15_3 + t215)) t216 t217 _ ?side1 A51.out).mono ?_); (case side1 => exact GW.on HG.out (by repeat (first | (with_reducible first | exact HB.out | apply bA | apply bN | apply below_drew1) | exact HB.out))); rintro e w57 ⟨rfl, hb⟩; have n0_ := Aside0.mk (Bd.R_below (by (with_reducible repeat (first | apply Bd.R_alloc | apply Bd.R_drewN | apply Bd.R_drew)); exact HO_12.out) hb); have n1_ := Aside0.mk (below_step (by repeat (first | (with_reducible first | exact HB.out | apply bA | apply bN | apply below_drew1) | exact HB.out)) hb); clear HO_12; clear HB; have HO_12 := n0_; have HB := n1_; clear n0_ n1_; (try clear hb); (try clear hb2); (try clear hk); (try clear hi); have hcv58 := Bd.R_string (P := Tryd.prog) Tryd.underlying36 Tryd.underlying5 Tryd.underlying9 HO_12.out) | (go_at_call 11; (with_reducible refine (solsticeref01_Begins.calls k3 (strOfNums x12_2) t216 false _ A53.out).mono ?_); rintro e w' ⟨rfl, ⟨nd, rfl⟩⟩; (try first | exact ⟨rfl, _, World.drewN_drewN _ _ _⟩ | exact ⟨rfl, _, Eq.trans (World.drewN_drewN _ _ _) (congrArg (World.drewN _) (Nat.add_assoc _ _ _))⟩)))
                   repeat (go_quiet (first | (go_at_call 7; (with_reducible refine (solsticelaw06_first.calls ji5 t215 _ A50.out).mono ?_); rintro e w' ⟨rfl, ⟨nd, rfl⟩⟩; (try first | exact ⟨rfl, _, World.drewN_drewN _ _ _⟩ | exact ⟨rfl, _, Eq.trans (World.drewN_drewN _ _ _) (congrArg (World.drewN _) (Nat.add_assoc _ _ _))⟩)) | (go_at_call 8; (with_reducible refine (words_Name.calls ji5 (wrap64 (x15_3 + t215)) t216 t217 _ ?side1 A51.out).mono ?_); (case side1 => exact GW.on HG.out (by repeat (first | (with_reducible first | exact HB.out | apply bA | apply bN | apply below_drew1) | exact HB.out))); rintro e w57 ⟨rfl, hb⟩; have n0_ := Aside0.mk (Bd.R_below (by (with_reducible repeat (first | apply Bd.R_alloc | apply Bd.R_drewN | apply Bd.R_drew)); exact HO_12.out) hb); have n1_ := Aside0.mk (below_step (by repeat (first | (with_reducible first | exact HB.out | apply bA | apply bN | apply below_drew1) | exact HB.out)) hb); clear HO_12; clear HB; have HO_12 := n0_; have HB := n1_; clear n0_ n1_; (try clear hb); (try clear hb2); (try clear hk); (try clear hi); have hcv58 := Bd.R_string (P := Tryd.prog) Tryd.underlying36 Tryd.underlying5 Tryd.underlying9 HO_12.out) | (go_at_call 11; (with_reducible refine (solsticeref01_Begins.calls k3 (strOfNums x12_2) t216 false _ A53.out).mono ?_); rintro e w' ⟨rfl, ⟨nd, rfl⟩⟩; (try first | exact ⟨rfl, _, World.drewN_drewN _ _ _⟩ | exact ⟨rfl, _, Eq.trans (World.drewN_drewN _ _ _) (congrArg (World.drewN _) (Nat.add_assoc _ _ _))⟩))); try go_wp2_with (first | (go_at_call 7; (with_reducible refine (solsticelaw06_first.calls ji5 t215 _ A50.out).mono ?_); rintro e w' ⟨rfl, ⟨nd, rfl⟩⟩; (try first | exact ⟨rfl, _, World.drewN_drewN _ _ _⟩ | exact ⟨rfl, _, Eq.trans (World.drewN_drewN _ _ _) (congrArg (World.drewN _) (Nat.add_assoc _ _ _))⟩)) | (go_at_call 8; (with_reducible refine (words_Name.calls ji5 (wrap64 (x15_3 + t215)) t216 t217 _ ?side1 A51.out).mono ?_); (case side1 => exact GW.on HG.out (by repeat (first | (with_reducible first | exact HB.out | apply bA | apply bN | apply below_drew1) | exact HB.out))); rintro e w57 ⟨rfl, hb⟩; have n0_ := Aside0.mk (Bd.R_below (by (with_reducible repeat (first | apply Bd.R_alloc | apply Bd.R_drewN | apply Bd.R_drew)); exact HO_12.out) hb); have n1_ := Aside0.mk (below_step (by repeat (first | (with_reducible first | exact HB.out | apply bA | apply bN | apply below_drew1) | exact HB.out)) hb); clear HO_12; clear HB; have HO_12 := n0_; have HB := n1_; clear n0_ n1_; (try clear hb); (try clear hb2); (try clear hk); (try clear hi); have hcv58 := Bd.R_string (P := Tryd.prog) Tryd.underlying36 Tryd.underlying5 Tryd.underlying9 HO_12.out) | (go_at_call 11; (with_reducible refine (solsticeref01_Begins.calls k3 (strOfNums x12_2) t216 false _ A53.out).mono ?_); rintro e w' ⟨rfl, ⟨nd, rfl⟩⟩; (try first | exact ⟨rfl, _, World.drewN_drewN _ _ _⟩ | exact ⟨rfl, _, Eq.trans (World.drewN_drewN _ _ _) (congrArg (World.drewN _) (Nat.add_assoc _ _ _))⟩))))
                   go_roundg k3
                   case measure => have := HJ10.out; have := HK2.out; have := HK3.out; omega
                   case rel => exact ⟨(x14_3), (wrap64 (x15_3 + 1)), (by first | rfl | (simp; done) | (simp [*]; done)), (by first | rfl | (simp; done) | (simp [*]; done)), H', ⟨by have := HJ10.out; have := HK2.out; have := HK3.out; omega⟩, ⟨by (with_reducible repeat (first | apply Bd.R_alloc | apply Bd.R_drewN | apply Bd.R_drew)); exact HO_12.out⟩, ⟨by repeat (first | (with_reducible first | exact HB.out | apply bA | apply bN | apply below_drew1) | exact HB.out)⟩⟩
                 ·rw [if_neg c52] at H
                  exact absurd H (by simp)
                ·rw [if_neg c49] at H
                 have c49b0 : decide (x15_3 < (rd y195 (ji5))) = false := decide_eq_false c49
                 clear c49
                 replace H := Option.bind_eq_some_iff.mp H
                 obtain ⟨⟨t219, t220⟩, A590, H⟩ := H
                 (try dsimp only at H)
                 have A59 := Aside0.mk A590
                 clear A590
                 have HC60 := Aside0.mk H
                 clear H
                 have hcv61 := Bd.R_string (P := Tryd.prog) Tryd.underlying36 Tryd.underlying5 Tryd.underlying9 HO_12.out
                 go_upto_region 27 with (first | (go_at_call 5; (with_reducible refine (solsticelaw06_tell.calls k3 ji5 (strOfNums x12_2) t219 t220 _ ?side1 A59.out).mono ?_); (case side1 => exact GW.on HG.out (by repeat (first | (with_reducible first | exact HB.out | apply bA | apply bN | apply below_drew1) | exact HB.out))); rintro e w62 ⟨rfl, hb⟩; have n0_ := Aside0.mk (Bd.R_below (by (with_reducible repeat (first | apply Bd.R_alloc | apply Bd.R_drewN | apply Bd.R_drew)); exact HO_12.out) hb); have n1_ := Aside0.mk (below_step (by repeat (first | (with_reducible first | exact HB.out | apply bA | apply bN | apply below_drew1) | exact HB.out)) hb); clear HO_12; clear HB; have HO_12 := n0_; have HB := n1_; clear n0_ n1_; (try clear hb); (try clear hb2); (try clear hk); (try clear hi)))
                 repeat (go_quiet (first | (go_at_call 5; (with_reducible refine (solsticelaw06_tell.calls k3 ji5 (strOfNums x12_2) t219 t220 _ ?side1 A59.out).mono ?_); (case side1 => exact GW.on HG.out (by repeat (first | (with_reducible first | exact HB.out | apply bA | apply bN | apply below_drew1) | exact HB.out))); rintro e w62 ⟨rfl, hb⟩; have n0_ := Aside0.mk (Bd.R_below (by (with_reducible repeat (first | apply Bd.R_alloc | apply Bd.R_drewN | apply Bd.R_drew)); exact HO_12.out) hb); have n1_ := Aside0.mk (below_step (by repeat (first | (with_reducible first | exact HB.out | apply bA | apply bN | apply below_drew1) | exact HB.out)) hb); clear HO_12; clear HB; have HO_12 := n0_; have HB := n1_; clear n0_ n1_; (try clear hb); (try clear hb2); (try clear hk); (try clear hi))); go_upto_region 27 with (first | (go_at_call 5; (with_reducible refine (solsticelaw06_tell.calls k3 ji5 (strOfNums x12_2) t219 t220 _ ?side1 A59.out).mono ?_); (case side1 => exact GW.on HG.out (by repeat (first | (with_reducible first | exact HB.out | apply bA | apply bN | apply below_drew1) | exact HB.out))); rintro e w62 ⟨rfl, hb⟩; have n0_ := Aside0.mk (Bd.R_below (by (with_reducible repeat (first | apply Bd.R_alloc | apply Bd.R_drewN | apply Bd.R_drew)); exact HO_12.out) hb); have n1_ := Aside0.mk (below_step (by repeat (first | (with_reducible first | exact HB.out | apply bA | apply bN | apply below_drew1) | exact HB.out)) hb); clear HO_12; clear HB; have HO_12 := n0_; have HB := n1_; clear n0_ n1_; (try clear hb); (try clear hb2); (try clear hk); (try clear hi))))
                 (try simp only [Act.put, List.setIfInBounds_toArray, List.set_cons_zero, List.set_cons_succ])
                 go_cut [173] (fun v173 wc => ∃ (kq : Nat) (x173_59 : Bool), v173 = .bool x173_59 ∧ Aside0 (solsticelaw06_WordsBegin.j4 kq ji5 (wrap64 ((wrap64 (Int.tmod (IntKind.u64.wrap (a1)) (IntKind.u64.wrap (rd y195 (ji5))))) + t199)) ji19 t200 x14_3 t219 t220 1 x173_59 = some r) ∧ Aside0 (kq ≤ k3) ∧ Aside0 (Below w.heap.size w wc))
                 case first => as_aux_lemma =>
                  have H := HC60.out
                  clear HC60
                  by_cases c63 : ji5 = 2
                  ·rw [if_pos c63] at H
                   have c63b0 : (ji5 == 2) = true := beq_iff_eq.mpr c63
                   have c63b1 : (ji5 != 2) = false := bne_eq_false_iff_eq.mpr c63
                   clear c63
                   (first | rw [c63b0] | (simp only [i64_w, i32_w]; rw [c63b0]) | skip)
                   have H' := Aside0.mk H
                   clear H
                   go_wp2
                   repeat (go_quiet (fail); try go_wp2)
                   go_meet
                   case rel => exact ⟨_, (true), (by first | rfl | (simp; done) | (simp [*]; done)), H', ⟨by have := HJ10.out; have := HK2.out; have := HK3.out; first | omega | exact Nat.le_refl _⟩, ⟨by repeat (first | (with_reducible first | exact HB.out | apply bA | apply bN | apply below_drew1) | exact HB.out)⟩⟩
                  ·rw [if_neg c63] at H
                   have c63b0 : (ji5 == 2) = false := beq_eq_false_iff_ne.mpr c63
                   have c63b1 : (ji5 != 2) = true := bne_iff_ne.mpr c63
                   (first | rw [c63b0] | (simp only [i64_w, i32_w]; rw [c63b0]) | skip)
                   have H' := Aside0.mk H
                   clear H
                   go_wp2
                   repeat (go_quiet (fail); try go_wp2)
                   go_meet
                   case rel => exact ⟨_, ((ji5 == 3)), (by first | rfl | (simp; done) | (simp only [← hji5] <;> (first | rfl | simp)) | (simp [*]; done)), H', ⟨by have := HJ10.out; have := HK2.out; have := HK3.out; first | omega | exact Nat.le_refl _⟩, ⟨by repeat (first | (with_reducible first | exact HB.out | apply bA | apply bN | apply below_drew1) | exact HB.out)⟩⟩
                 case rest => as_aux_lemma =>
                  clear HC60
                  try clear c1
                  try clear p1
                  try clear q1
                  try clear hx1
                  try clear c2
                  try clear p2
                  try clear q2
                  try clear hx2
                  try clear c3
                  try clear p3
                  try clear q3
                  try clear hx3
                  try clear c4
                  try clear p4
                  try clear q4
                  try clear hx4
                  try clear hf4
                  try clear c5
                  try clear hcv5
                  try clear c6
                  try clear c6b0
                  try clear p6
                  try clear hcv6
                  try clear c7
                  try clear c7b0
                  try clear c8
                  try clear c8b0
                  try clear c8b1
                  try clear c16
                  try clear c16b0
                  try clear c16b1
                  try clear c17
                  try clear c18
                  try clear c18b0
                  try clear c18b1
                  try clear p19
                  try clear q19
                  try clear hx19
                  try clear c20
                  try clear c20b0
                  try clear c20b1
                  try clear p20
                  try clear q20
                  try clear hx20
                  try clear c21
                  try clear c21b0
                  try clear c21b1
                  try clear p21
                  try clear q21
                  try clear hx21
                  try clear c22
                  try clear c24
                  try clear c24b0
                  try clear c27
                  try clear c27b0
                  try clear c28
                  try clear c28b0
                  try clear q29
                  try clear c30
                  try clear c31
                  try clear c31b0
                  try clear c32
                  try clear c33
                  try clear c33b0
                  try clear c34
                  try clear c34b0
                  try clear p35
                  try clear q35
                  try clear hx35
                  try clear hf35
                  try clear c38
                  try clear c38b0
                  try clear c39
                  try clear c39b0
                  try clear q40
                  try clear c41
                  try clear c42
                  try clear c42b0
                  try clear c43
                  try clear c43b0
                  try clear c44
                  try clear c44b0
                  try clear p45
                  try clear q45
                  try clear hx45
                  try clear hf45
                  try clear c49
                  try clear c49b0
                  try clear c52
                  try clear c52b0
                  try clear c52b1
                  try clear c54
                  try clear hcv56
                  try clear hcv58
                  try clear hcv61
                  try clear c63
                  try clear c63b0
                  try clear c63b1
                  try clear hx198_0
                  try clear hx205_0
                  try clear hx206_0
                  try clear hx207_0
                  try clear hx208_0
                  try clear hx210_0
                  try clear hx211_0
                  try clear hx212_0
                  try clear hx213_0
                  try clear hx35_0
                  try clear hx45_0
                  try clear p1
                  try clear p19
                  try clear p198
                  try clear p2
                  try clear p20
                  try clear p205
                  try clear p206
                  try clear p207
                  try clear p208
                  try clear p21
                  try clear p210
                  try clear p211
                  try clear p212
                  try clear p213
                  try clear p3
                  try clear p35
                  try clear p4
                  try clear p45
                  try clear p6
                  try clear q1
                  try clear q19
                  try clear q198
                  try clear q2
                  try clear q20
                  try clear q205
                  try clear q206
                  try clear q207
                  try clear q208
                  try clear q21
                  try clear q210
                  try clear q211
                  try clear q212
                  try clear q213
                  try clear q29
                  try clear q3
                  try clear q35
                  try clear q4
                  try clear q40
                  try clear q45
                  obtain ⟨kq, x173_59, rfl, HA, HJ59, HB⟩ := hcut
                  cases kq with
                  | zero => exact absurd HA.out (by simp [solsticelaw06_WordsBegin.j4])
                  | succ kj59 =>
                   have H := HA.out
                   clear HA
                   simp only [solsticelaw06_WordsBegin.j4] at H
                   have HC64 := Aside0.mk H
                   clear H
                   go_upto_if 173 with (fail)
                   repeat (go_quiet (fail); go_upto_if 173 with (fail))
                   go_cut [20] (fun v20 wc => ∃ (kq : Nat) (x20_63 : Int), v20 = .int .i64 x20_63 ∧ Aside0 (solsticelaw06_WordsBegin.j5 kq ji5 (wrap64 ((wrap64 (Int.tmod (IntKind.u64.wrap (a1)) (IntKind.u64.wrap (rd y195 (ji5))))) + t199)) ji19 t200 x14_3 t219 t220 x20_63 = some r) ∧ Aside0 (kq ≤ kj59) ∧ Aside0 (Below w.heap.size w wc))
                   case first => as_aux_lemma =>
                    have H := HC64.out
                    clear HC64
                    by_cases c65 : x173_59 = true
                    ·subst c65
                     have H1 : (solsticelaw06_WordsBegin.j5 kj59 ji5 (wrap64 ((wrap64 (Int.tmod (IntKind.u64.wrap (a1)) (IntKind.u64.wrap (rd y195 (ji5))))) + t199)) ji19 t200 x14_3 t219 t220 3) = some r := by rw [if_pos rfl] at H; exact H
                     clear H
                     have H := H1
                     clear H1
                     have H' := Aside0.mk H
                     clear H
                     go_wp2
                     repeat (go_quiet (fail); try go_wp2)
                     go_meet
                     case rel => exact ⟨_, (3), (by first | rfl | (simp; done) | (simp [*]; done)), H', ⟨by have := HJ10.out; have := HK2.out; have := HK3.out; have := HJ59.out; first | omega | exact Nat.le_refl _⟩, ⟨by repeat (first | (with_reducible first | exact HB.out | apply bA | apply bN | apply below_drew1) | exact HB.out)⟩⟩
                    ·replace c65 := Bool.eq_false_iff.mpr c65
                     subst c65
                     have H1 : (solsticelaw06_WordsBegin.j5 kj59 ji5 (wrap64 ((wrap64 (Int.tmod (IntKind.u64.wrap (a1)) (IntKind.u64.wrap (rd y195 (ji5))))) + t199)) ji19 t200 x14_3 t219 t220 1) = some r := by rw [if_neg (show ¬ (false = true) by decide)] at H; exact H
                     clear H
                     have H := H1
                     clear H1
                     have H' := Aside0.mk H
                     clear H
                     go_wp2
                     repeat (go_quiet (fail); try go_wp2)
                     go_meet
                     case rel => exact ⟨_, (1), (by first | rfl | (simp; done) | (simp [*]; done)), H', ⟨by have := HJ10.out; have := HK2.out; have := HK3.out; have := HJ59.out; first | omega | exact Nat.le_refl _⟩, ⟨by repeat (first | (with_reducible first | exact HB.out | apply bA | apply bN | apply below_drew1) | exact HB.out)⟩⟩
                   case rest => as_aux_lemma =>
                    clear HC64
                    try clear c1
                    try clear p1
                    try clear q1
                    try clear hx1
                    try clear c2
                    try clear p2
                    try clear q2
                    try clear hx2
                    try clear c3
                    try clear p3
                    try clear q3
                    try clear hx3
                    try clear c4
                    try clear p4
                    try clear q4
                    try clear hx4
                    try clear hf4
                    try clear c5
                    try clear hcv5
                    try clear c6
                    try clear c6b0
                    try clear p6
                    try clear hcv6
                    try clear c7
                    try clear c7b0
                    try clear c8
                    try clear c8b0
                    try clear c8b1
                    try clear c16
                    try clear c16b0
                    try clear c16b1
                    try clear c17
                    try clear c18
                    try clear c18b0
                    try clear c18b1
                    try clear p19
                    try clear q19
                    try clear hx19
                    try clear c20
                    try clear c20b0
                    try clear c20b1
                    try clear p20
                    try clear q20
                    try clear hx20
                    try clear c21
                    try clear c21b0
                    try clear c21b1
                    try clear p21
                    try clear q21
                    try clear hx21
                    try clear c22
                    try clear c24
                    try clear c24b0
                    try clear c27
                    try clear c27b0
                    try clear c28
                    try clear c28b0
                    try clear q29
                    try clear c30
                    try clear c31
                    try clear c31b0
                    try clear c32
                    try clear c33
                    try clear c33b0
                    try clear c34
                    try clear c34b0
                    try clear p35
                    try clear q35
                    try clear hx35
                    try clear hf35
                    try clear c38
                    try clear c38b0
                    try clear c39
                    try clear c39b0
                    try clear q40
                    try clear c41
                    try clear c42
                    try clear c42b0
                    try clear c43
                    try clear c43b0
                    try clear c44
                    try clear c44b0
                    try clear p45
                    try clear q45
                    try clear hx45
                    try clear hf45
                    try clear c49
                    try clear c49b0
                    try clear c52
                    try clear c52b0
                    try clear c52b1
                    try clear c54
                    try clear hcv56
                    try clear hcv58
                    try clear hcv61
                    try clear c63
                    try clear c63b0
                    try clear c63b1
                    try clear p64
                    try clear c65
                    try clear hx198_0
                    try clear hx205_0
                    try clear hx206_0
                    try clear hx207_0
                    try clear hx208_0
                    try clear hx210_0
                    try clear hx211_0
                    try clear hx212_0
                    try clear hx213_0
                    try clear hx35_0
                    try clear hx45_0
                    try clear p1
                    try clear p19
                    try clear p198
                    try clear p2
                    try clear p20
                    try clear p205
                    try clear p206
                    try clear p207
                    try clear p208
                    try clear p21
                    try clear p210
                    try clear p211
                    try clear p212
                    try clear p213
                    try clear p3
                    try clear p35
                    try clear p4
                    try clear p45
                    try clear p6
                    try clear q1
                    try clear q19
                    try clear q198
                    try clear q2
                    try clear q20
                    try clear q205
                    try clear q206
                    try clear q207
                    try clear q208
                    try clear q21
                    try clear q210
                    try clear q211
                    try clear q212
                    try clear q213
                    try clear q29
                    try clear q3
                    try clear q35
                    try clear q4
                    try clear q40
                    try clear q45
                    obtain ⟨kq, x20_63, rfl, HA, HJ63, HB⟩ := hcut
                    cases kq with
                    | zero => exact absurd HA.out (by simp [solsticelaw06_WordsBegin.j5])
                    | succ kj63 =>
                     have H := HA.out
                     clear HA
                     simp only [solsticelaw06_WordsBegin.j5] at H
                     by_cases c66 : t200.size + 1 ≤ 9223372036854775807
                     ·rw [if_pos c66] at H
                      have c66b0 := eq_true c66
                      have c66b1 : decide (t200.size + 1 ≤ 9223372036854775807) = true := decide_eq_true c66
                      try have c66b2 : (9223372036854775807 < t200.size + 1) = False := eq_false (Nat.not_lt.2 c66)
                      replace H := Option.bind_eq_some_iff.mp H
                      obtain ⟨⟨t221, t222⟩, A670, H⟩ := H
                      (try dsimp only at H)
                      have A67 := Aside0.mk A670
                      clear A670
                      replace H := Option.bind_eq_some_iff.mp H
                      obtain ⟨⟨t223, t224⟩, A680, H⟩ := H
                      (try dsimp only at H)
                      have A68 := Aside0.mk A680
                      clear A680
                      have HC69 := Aside0.mk H
                      clear H
                      go_upto_region 31 with (first | (go_at_call 5; (with_reducible refine (solsticelaw06_tell.calls kj63 ji5 (t200 ++ (⟨#[120]⟩ : ByteArray)) t221 t222 _ ?side1 A67.out).mono ?_); (case side1 => exact GW.on HG.out (by repeat (first | (with_reducible first | exact HB.out | apply bA | apply bN | apply below_drew1) | exact HB.out))); rintro e w70 ⟨rfl, hb⟩; have n0_ := Aside0.mk (below_step (by repeat (first | (with_reducible first | exact HB.out | apply bA | apply bN | apply below_drew1) | exact HB.out)) hb); clear HB; have HB := n0_; clear n0_; (try clear hb); (try clear hb2); (try clear hk); (try clear hi)) | (go_at_call 5; (with_reducible refine (solsticelaw06_tell.calls kj63 ji5 (⟨#[]⟩ : ByteArray) t223 t224 _ ?side1 A68.out).mono ?_); (case side1 => exact GW.on HG.out (by repeat (first | (with_reducible first | exact HB.out | apply bA | apply bN | apply below_drew1) | exact HB.out))); rintro e w71 ⟨rfl, hb⟩; have n0_ := Aside0.mk (below_step (by repeat (first | (with_reducible first | exact HB.out | apply bA | apply bN | apply below_drew1) | exact HB.out)) hb); clear HB; have HB := n0_; clear n0_; (try clear hb); (try clear hb2); (try clear hk); (try clear hi)))
                      repeat (go_quiet (first | (go_at_call 5; (with_reducible refine (solsticelaw06_tell.calls kj63 ji5 (t200 ++ (⟨#[120]⟩ : ByteArray)) t221 t222 _ ?side1 A67.out).mono ?_); (case side1 => exact GW.on HG.out (by repeat (first | (with_reducible first | exact HB.out | apply bA | apply bN | apply below_drew1) | exact HB.out))); rintro e w70 ⟨rfl, hb⟩; have n0_ := Aside0.mk (below_step (by repeat (first | (with_reducible first | exact HB.out | apply bA | apply bN | apply below_drew1) | exact HB.out)) hb); clear HB; have HB := n0_; clear n0_; (try clear hb); (try clear hb2); (try clear hk); (try clear hi)) | (go_at_call 5; (with_reducible refine (solsticelaw06_tell.calls kj63 ji5 (⟨#[]⟩ : ByteArray) t223 t224 _ ?side1 A68.out).mono ?_); (case side1 => exact GW.on HG.out (by repeat (first | (with_reducible first | exact HB.out | apply bA | apply bN | apply below_drew1) | exact HB.out))); rintro e w71 ⟨rfl, hb⟩; have n0_ := Aside0.mk (below_step (by repeat (first | (with_reducible first | exact HB.out | apply bA | apply bN | apply below_drew1) | exact HB.out)) hb); clear HB; have HB := n0_; clear n0_; (try clear hb); (try clear hb2); (try clear hk); (try clear hi))); go_upto_region 31 with (first | (go_at_call 5; (with_reducible refine (solsticelaw06_tell.calls kj63 ji5 (t200 ++ (⟨#[120]⟩ : ByteArray)) t221 t222 _ ?side1 A67.out).mono ?_); (case side1 => exact GW.on HG.out (by repeat (first | (with_reducible first | exact HB.out | apply bA | apply bN | apply below_drew1) | exact HB.out))); rintro e w70 ⟨rfl, hb⟩; have n0_ := Aside0.mk (below_step (by repeat (first | (with_reducible first | exact HB.out | apply bA | apply bN | apply below_drew1) | exact HB.out)) hb); clear HB; have HB := n0_; clear n0_; (try clear hb); (try clear hb2); (try clear hk); (try clear hi)) | (go_at_call 5; (with_reducible refine (solsticelaw06_tell.calls kj63 ji5 (⟨#[]⟩ : ByteArray) t223 t224 _ ?side1 A68.out).mono ?_); (case side1 => exact GW.on HG.out (by repeat (first | (with_reducible first | exact HB.out | apply bA | apply bN | apply below_drew1) | exact HB.out))); rintro e w71 ⟨rfl, hb⟩; have n0_ := Aside0.mk (below_step (by repeat (first | (with_reducible first | exact HB.out | apply bA | apply bN | apply below_drew1) | exact HB.out)) hb); clear HB; have HB := n0_; clear n0_; (try clear hb); (try clear hb2); (try clear hk); (try clear hi))))
                      (try simp only [Act.put, List.setIfInBounds_toArray, List.set_cons_zero, List.set_cons_succ])
                      go_cut [191] (fun v191 wc => ∃ (kq : Nat) (x191_68 : Bool), v191 = .bool x191_68 ∧ Aside0 (solsticelaw06_WordsBegin.j6 kq (wrap64 ((wrap64 (Int.tmod (IntKind.u64.wrap (a1)) (IntKind.u64.wrap (rd y195 (ji5))))) + t199)) ji19 t200 x14_3 t219 t220 x20_63 x191_68 = some r) ∧ Aside0 (kq ≤ kj63) ∧ Aside0 (Below w.heap.size w wc))
                      case first => as_aux_lemma =>
                       have H := HC69.out
                       clear HC69
                       by_cases c72 : t222 = 7
                       ·rw [if_pos c72] at H
                        have c72b0 : (t222 == 7) = true := beq_iff_eq.mpr c72
                        have c72b1 : (t222 != 7) = false := bne_eq_false_iff_eq.mpr c72
                        clear c72
                        (first | rw [c72b0] | (simp only [i64_w, i32_w]; rw [c72b0]) | skip)
                        have H' := Aside0.mk H
                        clear H
                        go_wp2
                        repeat (go_quiet (fail); try go_wp2)
                        go_meet
                        case rel => exact ⟨_, ((t224 != 7)), (by first | rfl | (simp; done) | (simp [*]; done)), H', ⟨by have := HJ10.out; have := HK2.out; have := HK3.out; have := HJ59.out; have := HJ63.out; first | omega | exact Nat.le_refl _⟩, ⟨by repeat (first | (with_reducible first | exact HB.out | apply bA | apply bN | apply below_drew1) | exact HB.out)⟩⟩
                       ·rw [if_neg c72] at H
                        have c72b0 : (t222 == 7) = false := beq_eq_false_iff_ne.mpr c72
                        have c72b1 : (t222 != 7) = true := bne_iff_ne.mpr c72
                        (first | rw [c72b0] | (simp only [i64_w, i32_w]; rw [c72b0]) | skip)
                        have H' := Aside0.mk H
                        clear H
                        go_wp2
                        repeat (go_quiet (fail); try go_wp2)
                        go_meet
                        case rel => exact ⟨_, (true), (by first | rfl | (simp; done) | (simp [*]; done)), H', ⟨by have := HJ10.out; have := HK2.out; have := HK3.out; have := HJ59.out; have := HJ63.out; first | omega | exact Nat.le_refl _⟩, ⟨by repeat (first | (with_reducible first | exact HB.out | apply bA | apply bN | apply below_drew1) | exact HB.out)⟩⟩
                      case rest => as_aux_lemma =>
                       clear HC69
                       try clear c1
                       try clear p1
                       try clear q1
                       try clear hx1
                       try clear c2
                       try clear p2
                       try clear q2
                       try clear hx2
                       try clear c3
                       try clear p3
                       try clear q3
                       try clear hx3
                       try clear c4
                       try clear p4
                       try clear q4
                       try clear hx4
                       try clear hf4
                       try clear c5
                       try clear hcv5
                       try clear c6
                       try clear c6b0
                       try clear p6
                       try clear hcv6
                       try clear c7
                       try clear c7b0
                       try clear c8
                       try clear c8b0
                       try clear c8b1
                       try clear c16
                       try clear c16b0
                       try clear c16b1
                       try clear c17
                       try clear c18
                       try clear c18b0
                       try clear c18b1
                       try clear p19
                       try clear q19
                       try clear hx19
                       try clear c20
                       try clear c20b0
                       try clear c20b1
                       try clear p20
                       try clear q20
                       try clear hx20
                       try clear c21
                       try clear c21b0
                       try clear c21b1
                       try clear p21
                       try clear q21
                       try clear hx21
                       try clear c22
                       try clear c24
                       try clear c24b0
                       try clear c27
                       try clear c27b0
                       try clear c28
                       try clear c28b0
                       try clear q29
                       try clear c30
                       try clear c31
                       try clear c31b0
                       try clear c32
                       try clear c33
                       try clear c33b0
                       try clear c34
                       try clear c34b0
                       try clear p35
                       try clear q35
                       try clear hx35
                       try clear hf35
                       try clear c38
                       try clear c38b0
                       try clear c39
                       try clear c39b0
                       try clear q40
                       try clear c41
                       try clear c42
                       try clear c42b0
                       try clear c43
                       try clear c43b0
                       try clear c44
                       try clear c44b0
                       try clear p45
                       try clear q45
                       try clear hx45
                       try clear hf45
                       try clear c49
                       try clear c49b0
                       try clear c52
                       try clear c52b0
                       try clear c52b1
                       try clear c54
                       try clear hcv56
                       try clear hcv58
                       try clear hcv61
                       try clear c63
                       try clear c63b0
                       try clear c63b1
                       try clear p64
                       try clear c65
                       try clear c66
                       try clear c66b0
                       try clear c66b1
                       try clear c66b2
                       try clear c72
                       try clear c72b0
                       try clear c72b1
                       try clear hx198_0
                       try clear hx205_0
                       try clear hx206_0
                       try clear hx207_0
                       try clear hx208_0
                       try clear hx210_0
                       try clear hx211_0
                       try clear hx212_0
                       try clear hx213_0
                       try clear hx35_0
                       try clear hx45_0
                       try clear p1
                       try clear p19
                       try clear p198
                       try clear p2
                       try clear p20
                       try clear p205
                       try clear p206
                       try clear p207
                       try clear p208
                       try clear p21
                       try clear p210
                       try clear p211
                       try clear p212
                       try clear p213
                       try clear p3
                       try clear p35
                       try clear p4
                       try clear p45
                       try clear p6
                       try clear p64
                       try clear q1
                       try clear q19
                       try clear q198
                       try clear q2
                       try clear q20
                       try clear q205
                       try clear q206
                       try clear q207
                       try clear q208
                       try clear q21
                       try clear q210
                       try clear q211
                       try clear q212
                       try clear q213
                       try clear q29
                       try clear q3
                       try clear q35
                       try clear q4
                       try clear q40
                       try clear q45
                       obtain ⟨kq, x191_68, rfl, HA, HJ68, HB⟩ := hcut
                       cases kq with
                       | zero => exact absurd HA.out (by simp [solsticelaw06_WordsBegin.j6])
                       | succ kj68 =>
                        have H := HA.out
                        clear HA
                        simp only [solsticelaw06_WordsBegin.j6] at H
                        by_cases c73 : x191_68 = true
                        ·subst c73
                         have H1 : (none) = some r := by rw [if_pos rfl] at H; exact H
                         clear H
                         have H := H1
                         clear H1
                         exact absurd H (by simp)
                        ·replace c73 := Bool.eq_false_iff.mpr c73
                         subst c73
                         have H1 : (if ji19 < (t200.size : Int) then (if ji19 < x20_63 then (solsticelaw06_WordsBegin.j7 kj68 (wrap64 ((wrap64 (Int.tmod (IntKind.u64.wrap (a1)) (IntKind.u64.wrap (rd y195 (ji5))))) + t199)) t219 t220 true) else (solsticelaw06_WordsBegin.j7 kj68 (wrap64 ((wrap64 (Int.tmod (IntKind.u64.wrap (a1)) (IntKind.u64.wrap (rd y195 (ji5))))) + t199)) t219 t220 (decide (x14_3 > 1)))) else (solsticelaw06_WordsBegin.j7 kj68 (wrap64 ((wrap64 (Int.tmod (IntKind.u64.wrap (a1)) (IntKind.u64.wrap (rd y195 (ji5))))) + t199)) t219 t220 false)) = some r := by rw [if_neg (show ¬ (false = true) by decide)] at H; exact H
                         clear H
                         have H := H1
                         clear H1
                         have HC74 := Aside0.mk H
                         clear H
                         go_upto_region 33 with (fail)
                         repeat (go_quiet (fail); go_upto_region 33 with (fail))
                         go_cut [204] (fun v204 wc => ∃ (kq : Nat) (x204_73 : Bool), v204 = .bool x204_73 ∧ Aside0 (solsticelaw06_WordsBegin.j7 kq (wrap64 ((wrap64 (Int.tmod (IntKind.u64.wrap (a1)) (IntKind.u64.wrap (rd y195 (ji5))))) + t199)) t219 t220 x204_73 = some r) ∧ Aside0 (kq ≤ kj68) ∧ Aside0 (Below w.heap.size w wc))
                         case first => as_aux_lemma =>
                          have H := HC74.out
                          clear HC74
                          by_cases c75 : ji19 < (t200.size : Int)
                          ·rw [if_pos c75] at H
                           have c75b0 : decide (ji19 < (t200.size : Int)) = true := decide_eq_true c75
                           clear c75
                           (first | rw [c75b0] | (simp only [i64_w, i32_w]; rw [c75b0]) | skip)
                           by_cases c76 : ji19 < x20_63
                           ·rw [if_pos c76] at H
                            have c76b0 : decide (ji19 < x20_63) = true := decide_eq_true c76
                            clear c76
                            have H' := Aside0.mk H
                            clear H
                            go_wp2
                            repeat (go_quiet (fail); try go_wp2)
                            go_meet
                            case rel => exact ⟨_, (true), (by first | rfl | (simp; done) | (simp [*]; done)), H', ⟨by have := HJ10.out; have := HK2.out; have := HK3.out; have := HJ59.out; have := HJ63.out; have := HJ68.out; first | omega | exact Nat.le_refl _⟩, ⟨by repeat (first | (with_reducible first | exact HB.out | apply bA | apply bN | apply below_drew1) | exact HB.out)⟩⟩
                           ·rw [if_neg c76] at H
                            have c76b0 : decide (ji19 < x20_63) = false := decide_eq_false c76
                            clear c76
                            have H' := Aside0.mk H
                            clear H
                            go_wp2
                            repeat (go_quiet (fail); try go_wp2)
                            go_meet
                            case rel => exact ⟨_, (decide (x14_3 > 1)), (by first | rfl | (simp; done) | (simp [*]; done)), H', ⟨by have := HJ10.out; have := HK2.out; have := HK3.out; have := HJ59.out; have := HJ63.out; have := HJ68.out; first | omega | exact Nat.le_refl _⟩, ⟨by repeat (first | (with_reducible first | exact HB.out | apply bA | apply bN | apply below_drew1) | exact HB.out)⟩⟩
                          ·rw [if_neg c75] at H
                           have c75b0 : decide (ji19 < (t200.size : Int)) = false := decide_eq_false c75
                           clear c75
                           (first | rw [c75b0] | (simp only [i64_w, i32_w]; rw [c75b0]) | skip)
                           have H' := Aside0.mk H
                           clear H
                           go_wp2
                           repeat (go_quiet (fail); try go_wp2)
                           go_meet
                           case rel => exact ⟨_, (false), (by first | rfl | (simp; done) | (simp [*]; done)), H', ⟨by have := HJ10.out; have := HK2.out; have := HK3.out; have := HJ59.out; have := HJ63.out; have := HJ68.out; first | omega | exact Nat.le_refl _⟩, ⟨by repeat (first | (with_reducible first | exact HB.out | apply bA | apply bN | apply below_drew1) | exact HB.out)⟩⟩
                         case rest => as_aux_lemma =>
                          clear HC74
                          try clear c1
                          try clear p1
                          try clear q1
                          try clear hx1
                          try clear c2
                          try clear p2
                          try clear q2
                          try clear hx2
                          try clear c3
                          try clear p3
                          try clear q3
                          try clear hx3
                          try clear c4
                          try clear p4
                          try clear q4
                          try clear hx4
                          try clear hf4
                          try clear c5
                          try clear hcv5
                          try clear c6
                          try clear c6b0
                          try clear p6
                          try clear hcv6
                          try clear c7
                          try clear c7b0
                          try clear c8
                          try clear c8b0
                          try clear c8b1
                          try clear c16
                          try clear c16b0
                          try clear c16b1
                          try clear c17
                          try clear c18
                          try clear c18b0
                          try clear c18b1
                          try clear p19
                          try clear q19
                          try clear hx19
                          try clear c20
                          try clear c20b0
                          try clear c20b1
                          try clear p20
                          try clear q20
                          try clear hx20
                          try clear c21
                          try clear c21b0
                          try clear c21b1
                          try clear p21
                          try clear q21
                          try clear hx21
                          try clear c22
                          try clear c24
                          try clear c24b0
                          try clear c27
                          try clear c27b0
                          try clear c28
                          try clear c28b0
                          try clear q29
                          try clear c30
                          try clear c31
                          try clear c31b0
                          try clear c32
                          try clear c33
                          try clear c33b0
                          try clear c34
                          try clear c34b0
                          try clear p35
                          try clear q35
                          try clear hx35
                          try clear hf35
                          try clear c38
                          try clear c38b0
                          try clear c39
                          try clear c39b0
                          try clear q40
                          try clear c41
                          try clear c42
                          try clear c42b0
                          try clear c43
                          try clear c43b0
                          try clear c44
                          try clear c44b0
                          try clear p45
                          try clear q45
                          try clear hx45
                          try clear hf45
                          try clear c49
                          try clear c49b0
                          try clear c52
                          try clear c52b0
                          try clear c52b1
                          try clear c54
                          try clear hcv56
                          try clear hcv58
                          try clear hcv61
                          try clear c63
                          try clear c63b0
                          try clear c63b1
                          try clear p64
                          try clear c65
                          try clear c66
                          try clear c66b0
                          try clear c66b1
                          try clear c66b2
                          try clear c72
                          try clear c72b0
                          try clear c72b1
                          try clear c73
                          try clear c75
                          try clear c75b0
                          try clear c76
                          try clear c76b0
                          try clear hx198_0
                          try clear hx205_0
                          try clear hx206_0
                          try clear hx207_0
                          try clear hx208_0
                          try clear hx210_0
                          try clear hx211_0
                          try clear hx212_0
                          try clear hx213_0
                          try clear hx35_0
                          try clear hx45_0
                          try clear p1
                          try clear p19
                          try clear p198
                          try clear p2
                          try clear p20
                          try clear p205
                          try clear p206
                          try clear p207
                          try clear p208
                          try clear p21
                          try clear p210
                          try clear p211
                          try clear p212
                          try clear p213
                          try clear p3
                          try clear p35
                          try clear p4
                          try clear p45
                          try clear p6
                          try clear p64
                          try clear q1
                          try clear q19
                          try clear q198
                          try clear q2
                          try clear q20
                          try clear q205
                          try clear q206
                          try clear q207
                          try clear q208
                          try clear q21
                          try clear q210
                          try clear q211
                          try clear q212
                          try clear q213
                          try clear q29
                          try clear q3
                          try clear q35
                          try clear q4
                          try clear q40
                          try clear q45
                          obtain ⟨kq, x204_73, rfl, HA, HJ73, HB⟩ := hcut
                          cases kq with
                          | zero => exact absurd HA.out (by simp [solsticelaw06_WordsBegin.j7])
                          | succ kj73 =>
                           have H := HA.out
                           clear HA
                           simp only [solsticelaw06_WordsBegin.j7] at H
                           by_cases c77 : x204_73 = true
                           ·subst c77
                            have H1 : (if t220 = 7 then (if t219 = 0 then ((solsticelaw06_wakes.f kj73).bind fun t225 => (some t225)) else (none)) else (none)) = some r := by rw [if_pos rfl] at H; exact H
                            clear H
                            have H := H1
                            clear H1
                            by_cases c78 : t220 = 7
                            ·rw [if_pos c78] at H
                             have c78b0 : (t220 == 7) = true := beq_iff_eq.mpr c78
                             have c78b1 : (t220 != 7) = false := bne_eq_false_iff_eq.mpr c78
                             clear c78
                             by_cases c79 : t219 = 0
                             ·rw [if_pos c79] at H
                              have c79b0 : (t219 == 0) = true := beq_iff_eq.mpr c79
                              have c79b1 : (t219 != 0) = false := bne_eq_false_iff_eq.mpr c79
                              clear c79
                              replace H := Option.bind_eq_some_iff.mp H
                              obtain ⟨t225, A800, H⟩ := H
                              (try dsimp only at H)
                              have A80 := Aside0.mk A800
                              clear A800
                              obtain rfl := Option.some.inj H
                              go_wp2_with (first | (go_at_call 10; (with_reducible refine (solsticelaw06_wakes.calls kj73  t225 _ ?side1 A80.out).mono ?_); (case side1 => exact GW.on HG.out (by repeat (first | (with_reducible first | exact HB.out | apply bA | apply bN | apply below_drew1) | exact HB.out))); rintro e w81 ⟨rfl, hb⟩; have n0_ := Aside0.mk (below_step (by repeat (first | (with_reducible first | exact HB.out | apply bA | apply bN | apply below_drew1) | exact HB.out)) hb); clear HB; have HB := n0_; clear n0_; (try clear hb); (try clear hb2); (try clear hk); (try clear hi)))
                              repeat (go_quiet (first | (go_at_call 10; (with_reducible refine (solsticelaw06_wakes.calls kj73  t225 _ ?side1 A80.out).mono ?_); (case side1 => exact GW.on HG.out (by repeat (first | (with_reducible first | exact HB.out | apply bA | apply bN | apply below_drew1) | exact HB.out))); rintro e w81 ⟨rfl, hb⟩; have n0_ := Aside0.mk (below_step (by repeat (first | (with_reducible first | exact HB.out | apply bA | apply bN | apply below_drew1) | exact HB.out)) hb); clear HB; have HB := n0_; clear n0_; (try clear hb); (try clear hb2); (try clear hk); (try clear hi))); try go_wp2_with (first | (go_at_call 10; (with_reducible refine (solsticelaw06_wakes.calls kj73  t225 _ ?side1 A80.out).mono ?_); (case side1 => exact GW.on HG.out (by repeat (first | (with_reducible first | exact HB.out | apply bA | apply bN | apply below_drew1) | exact HB.out))); rintro e w81 ⟨rfl, hb⟩; have n0_ := Aside0.mk (below_step (by repeat (first | (with_reducible first | exact HB.out | apply bA | apply bN | apply below_drew1) | exact HB.out)) hb); clear HB; have HB := n0_; clear n0_; (try clear hb); (try clear hb2); (try clear hk); (try clear hi))))
                              go_ret
                              exact ⟨by first | rfl | (simp [errW_none, errW_some] <;> rfl) | (simp only [← hji5, ← hji19]; first | rfl | (simp [errW_none, errW_some] <;> rfl)) | (simp [*, errW_none, errW_some] <;> rfl), by repeat (first | (with_reducible first | exact HB.out | apply bA | apply bN | apply below_drew1) | exact HB.out)⟩
                             ·rw [if_neg c79] at H
                              exact absurd H (by simp)
                            ·rw [if_neg c78] at H
                             exact absurd H (by simp)
                           ·replace c77 := Bool.eq_false_iff.mpr c77
                            subst c77
                            have H1 : (if t220 = 0 then (if t219 = (wrap64 ((wrap64 (Int.tmod (IntKind.u64.wrap (a1)) (IntKind.u64.wrap (rd y195 (ji5))))) + t199)) then ((solsticelaw06_wakes.f kj73).bind fun t226 => (some t226)) else (none)) else (none)) = some r := by rw [if_neg (show ¬ (false = true) by decide)] at H; exact H
                            clear H
                            have H := H1
                            clear H1
                            by_cases c82 : t220 = 0
                            ·rw [if_pos c82] at H
                             have c82b0 : (t220 == 0) = true := beq_iff_eq.mpr c82
                             have c82b1 : (t220 != 0) = false := bne_eq_false_iff_eq.mpr c82
                             clear c82
                             by_cases c83 : t219 = (wrap64 ((wrap64 (Int.tmod (IntKind.u64.wrap (a1)) (IntKind.u64.wrap (rd y195 (ji5))))) + t199))
                             ·rw [if_pos c83] at H
                              have c83b0 : (t219 == (wrap64 ((wrap64 (Int.tmod (IntKind.u64.wrap (a1)) (IntKind.u64.wrap (rd y195 (ji5))))) + t199))) = true := beq_iff_eq.mpr c83
                              have c83b1 : (t219 != (wrap64 ((wrap64 (Int.tmod (IntKind.u64.wrap (a1)) (IntKind.u64.wrap (rd y195 (ji5))))) + t199))) = false := bne_eq_false_iff_eq.mpr c83
                              clear c83
                              replace H := Option.bind_eq_some_iff.mp H
                              obtain ⟨t226, A840, H⟩ := H
                              (try dsimp only at H)
                              have A84 := Aside0.mk A840
                              clear A840
                              obtain rfl := Option.some.inj H
                              go_wp2_with (first | (go_at_call 10; (with_reducible refine (solsticelaw06_wakes.calls kj73  t226 _ ?side1 A84.out).mono ?_); (case side1 => exact GW.on HG.out (by repeat (first | (with_reducible first | exact HB.out | apply bA | apply bN | apply below_drew1) | exact HB.out))); rintro e w85 ⟨rfl, hb⟩; have n0_ := Aside0.mk (below_step (by repeat (first | (with_reducible first | exact HB.out | apply bA | apply bN | apply below_drew1) | exact HB.out)) hb); clear HB; have HB := n0_; clear n0_; (try clear hb); (try clear hb2); (try clear hk); (try clear hi)))
                              repeat (go_quiet (first | (go_at_call 10; (with_reducible refine (solsticelaw06_wakes.calls kj73  t226 _ ?side1 A84.out).mono ?_); (case side1 => exact GW.on HG.out (by repeat (first | (with_reducible first | exact HB.out | apply bA | apply bN | apply below_drew1) | exact HB.out))); rintro e w85 ⟨rfl, hb⟩; have n0_ := Aside0.mk (below_step (by repeat (first | (with_reducible first | exact HB.out | apply bA | apply bN | apply below_drew1) | exact HB.out)) hb); clear HB; have HB := n0_; clear n0_; (try clear hb); (try clear hb2); (try clear hk); (try clear hi))); try go_wp2_with (first | (go_at_call 10; (with_reducible refine (solsticelaw06_wakes.calls kj73  t226 _ ?side1 A84.out).mono ?_); (case side1 => exact GW.on HG.out (by repeat (first | (with_reducible first | exact HB.out | apply bA | apply bN | apply below_drew1) | exact HB.out))); rintro e w85 ⟨rfl, hb⟩; have n0_ := Aside0.mk (below_step (by repeat (first | (with_reducible first | exact HB.out | apply bA | apply bN | apply below_drew1) | exact HB.out)) hb); clear HB; have HB := n0_; clear n0_; (try clear hb); (try clear hb2); (try clear hk); (try clear hi))))
                              go_ret
                              exact ⟨by first | rfl | (simp [errW_none, errW_some] <;> rfl) | (simp only [← hji5, ← hji19]; first | rfl | (simp [errW_none, errW_some] <;> rfl)) | (simp [*, errW_none, errW_some] <;> rfl), by repeat (first | (with_reducible first | exact HB.out | apply bA | apply bN | apply below_drew1) | exact HB.out)⟩
                             ·rw [if_neg c83] at H
                              exact absurd H (by simp)
                            ·rw [if_neg c82] at H
                             exact absurd H (by simp)
                     ·rw [if_neg c66] at H
                      exact absurd H (by simp)
          ·rw [if_neg c22] at H
           exact absurd H (by simp)
         ·rw [if_neg c21] at H
          exact absurd H (by simp)
        ·rw [if_neg c20] at H
         exact absurd H (by simp)
  ·rw [if_neg c7] at H
   exact absurd H (by simp)
 ·rw [if_neg c6] at H
  exact absurd H (by simp)

end Go.Proofs.YtijekkoifhmdlaaDoor.X
