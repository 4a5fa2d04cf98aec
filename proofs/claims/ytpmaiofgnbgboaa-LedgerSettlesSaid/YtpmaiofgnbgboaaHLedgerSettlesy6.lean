/- Contracts of functions that LedgerSettles reaches, a text of this session's own. -/
import Derived.Test.YtpmaiofgnbgboaaHLedgerSettlesy0
import Derived.Test.YtpmaiofgnbgboaaHLedgerSettlesy1
import Derived.Test.YtpmaiofgnbgboaaHLedgerSettlesy2
import Derived.Test.YtpmaiofgnbgboaaHLedgerSettlesy4
import Derived.Test.YtpmaiofgnbgboaaHLedgerSettlesy5
namespace Go.Proofs.Ytpmaiofgnbgboaa.PLedgerSettles
open Go.RowKit Go.Proofs.YtpmaiofgnbgboaaW.PrintWords Go.Proofs.YtpmaiofgnbgboaaW.PrintLast Go.Proofs.YtpmaiofgnbgboaaW.PrintMore
attribute [local go_sem] max2_int min2_int max_two min_two max_three min_three max_four min_four   -- for this text's walks alone
set_option linter.unusedVariables false
set_option linter.unusedSimpArgs false

attribute [local go_sem high] eqA67
/-! ### gridhalllaw3_LedgerSettles: function 8 -/
mutual
def gridhalllaw3_LedgerSettles.j0 : Nat → List ByteArray → List Int → Bool → Option (Bool)
 | 0, _, _, _ => none
 | k + 1, x0, x1, x34 => if x34 = true then (some false) else ((ledger_Settle.f k x0 x1).bind fun bt152 => (if (x0.length : Int) > 64 then (gridhalllaw3_LedgerSettles.j1 k x0 x1 bt152.1 bt152.2 2) else (if (x0.length : Int) = (x1.length : Int) then (gridhalllaw3_LedgerSettles.j1 k x0 x1 bt152.1 bt152.2 0) else (gridhalllaw3_LedgerSettles.j1 k x0 x1 bt152.1 bt152.2 3))))
def gridhalllaw3_LedgerSettles.j1 : Nat → List ByteArray → List Int → List (S67) → Int → Int → Option (Bool)
 | 0, _, _, _, _, _ => none
 | k + 1, x0, x1, x7, x8, x9 => gridhalllaw3_LedgerSettles.l0 k x0 x1 x7 x8 x9 0 0
def gridhalllaw3_LedgerSettles.l0 : Nat → List ByteArray → List Int → List (S67) → Int → Int → Int → Int → Option (Bool)
 | 0, _, _, _, _, _, _, _ => none
 | k + 1, x0, x1, x7, x8, x9, x10, x11 => if x11 < (x0.length : Int) then (gridhalllaw3_LedgerSettles.j3 k x0 x1 x7 x8 x9 x10 x11 (x9 == 0)) else (gridhalllaw3_LedgerSettles.j3 k x0 x1 x7 x8 x9 x10 x11 false)
def gridhalllaw3_LedgerSettles.j3 : Nat → List ByteArray → List Int → List (S67) → Int → Int → Int → Int → Bool → Option (Bool)
 | 0, _, _, _, _, _, _, _, _ => none
 | k + 1, x0, x1, x7, x8, x9, x10, x11, x56 => if x56 = true then (if 0 ≤ x11 then (if x11 ≤ (x0.length : Int) then (gridhalllaw3_LedgerSettles.l1 k x0 x1 x7 x8 x9 x10 x11 false (x0.take (x11 : Int).toNat) ((x0.take (x11 : Int).toNat).length : Int) 0) else (none)) else (none)) else (if x9 = 0 then (gridhalllaw3_LedgerSettles.j5 k x0 x1 x7 x8 x9 (x10 != 0)) else (gridhalllaw3_LedgerSettles.j5 k x0 x1 x7 x8 x9 false))
def gridhalllaw3_LedgerSettles.l1 : Nat → List ByteArray → List Int → List (S67) → Int → Int → Int → Int → Bool → List ByteArray → Int → Int → Option (Bool)
 | 0, _, _, _, _, _, _, _, _, _, _, _ => none
 | k + 1, x0, x1, x7, x8, x9, x10, x11, x12, x61, x62, x63 => if x63 < x62 then (if 0 ≤ x63 then (if x63 < (x61.length : Int) then (if x12 = true then (gridhalllaw3_LedgerSettles.l1 k x0 x1 x7 x8 x9 x10 x11 true x61 x62 (wrap64 (x63 + 1))) else (if 0 ≤ x11 then (if x11 < (x0.length : Int) then (gridhalllaw3_LedgerSettles.l1 k x0 x1 x7 x8 x9 x10 x11 ((rdOf ByteArray.empty x61 x63).toList == (rdOf ByteArray.empty x0 x11).toList) x61 x62 (wrap64 (x63 + 1))) else (none)) else (none))) else (none)) else (none)) else (if 0 ≤ x11 then (if x11 < (x0.length : Int) then ((gridhallref3_Named.f k (rdOf ByteArray.empty x0 x11)).bind fun t160 => (if t160 = true then (if x12 = true then (gridhalllaw3_LedgerSettles.l0 k x0 x1 x7 x8 7 x10 (wrap64 (x11 + 1))) else (if x11 < (x1.length : Int) then ((gridhallref3_In.f (rd x1 x11) (-1000000000000) 1000000000000).bind fun t162 => (if t162 = true then (gridhalllaw3_LedgerSettles.l0 k x0 x1 x7 x8 x9 (wrap64 (x10 + (rd x1 x11))) (wrap64 (x11 + 1))) else (gridhalllaw3_LedgerSettles.l0 k x0 x1 x7 x8 4 x10 (wrap64 (x11 + 1))))) else (none))) else (gridhalllaw3_LedgerSettles.l0 k x0 x1 x7 x8 6 x10 (wrap64 (x11 + 1))))) else (none)) else (none))
def gridhalllaw3_LedgerSettles.j5 : Nat → List ByteArray → List Int → List (S67) → Int → Int → Bool → Option (Bool)
 | 0, _, _, _, _, _, _ => none
 | k + 1, x0, x1, x7, x8, x9, x104 => if x104 = true then (gridhalllaw3_LedgerSettles.j6 k x0 x1 x7 x8 14) else (gridhalllaw3_LedgerSettles.j6 k x0 x1 x7 x8 x9)
def gridhalllaw3_LedgerSettles.j6 : Nat → List ByteArray → List Int → List (S67) → Int → Int → Option (Bool)
 | 0, _, _, _, _, _ => none
 | k + 1, x0, x1, x7, x8, x9 => if x9 = 0 then ((some (([] : List Int) : List Int)).bind fun y164 => (if y164.length + x1.length < 17592186044416 then (gridhalllaw3_LedgerSettles.l2 k x0 x7 x8 (y164 ++ x1) x7 (x7.length : Int) 0) else (none))) else (if x8 = x9 then (some ((x7.length : Int) == 0)) else (some false))
def gridhalllaw3_LedgerSettles.l2 : Nat → List ByteArray → List (S67) → Int → List Int → List (S67) → Int → Int → Option (Bool)
 | 0, _, _, _, _, _, _, _ => none
 | k + 1, x0, x7, x8, x15, x118, x119, x120 => if x120 < x119 then (if 0 ≤ x120 then (if x120 < (x118.length : Int) then (gridhalllaw3_LedgerSettles.l3 k x0 x7 x8 x15 0 0 x118 x119 x120 ((rd_T67 x118 x120).f0) ((rd_T67 x118 x120).f1) ((rd_T67 x118 x120).f2)) else (none)) else (none)) else (gridhalllaw3_LedgerSettles.l5 k x0 x7 x8 x15 (x15.length : Int) 0)
def gridhalllaw3_LedgerSettles.j9 : Nat → List ByteArray → List (S67) → Int → List Int → Int → Int → List (S67) → Int → Int → ByteArray → ByteArray → Int → Option (Bool)
 | 0, _, _, _, _, _, _, _, _, _, _, _, _ => none
 | k + 1, x0, x7, x8, x15, x18, x19, x118, x119, x120, x172000, x172001, x172002 => gridhalllaw3_LedgerSettles.l4 k x0 x7 x8 x15 x18 x19 x118 x119 x120 x172000 x172001 x172002
def gridhalllaw3_LedgerSettles.l4 : Nat → List ByteArray → List (S67) → Int → List Int → Int → Int → List (S67) → Int → Int → ByteArray → ByteArray → Int → Option (Bool)
 | 0, _, _, _, _, _, _, _, _, _, _, _, _ => none
 | k + 1, x0, x7, x8, x15, x18, x19, x118, x119, x120, x172000, x172001, x172002 => if x19 < (x15.length : Int) then (if 0 ≤ x19 then (if (rd x15 x19) ≤ 0 then (gridhalllaw3_LedgerSettles.l4 k x0 x7 x8 x15 x18 (wrap64 (x19 + 1)) x118 x119 x120 x172000 x172001 x172002) else (if x18 = (x15.length : Int) then (some false) else (if x19 = (x15.length : Int) then (some false) else (if 0 ≤ x18 then (if x18 < (x0.length : Int) then (if x19 < (x0.length : Int) then (if x18 < (x15.length : Int) then (if (!(x172000.toList == ((rdOf ByteArray.empty x0 x18).toList)) || (!(x172001.toList == ((rdOf ByteArray.empty x0 x19).toList)) || (!(x172002 == (mn (wrap64 (-(rd x15 x18))) (rd x15 x19)))))) = true then (some false) else (gridhalllaw3_LedgerSettles.l2 k x0 x7 x8 ((x15.set (x18 : Int).toNat (wrap64 ((rd x15 x18) + x172002))).set (x19 : Int).toNat (wrap64 ((rd x15 x19) - x172002))) x118 x119 (wrap64 (x120 + 1)))) else (none)) else (none)) else (none)) else (none))))) else (none)) else (if x18 = (x15.length : Int) then (some false) else (if x19 = (x15.length : Int) then (some false) else (if 0 ≤ x18 then (if x18 < (x0.length : Int) then (if 0 ≤ x19 then (if x19 < (x0.length : Int) then (if x18 < (x15.length : Int) then (none) else (none)) else (none)) else (none)) else (none)) else (none))))
def gridhalllaw3_LedgerSettles.l3 : Nat → List ByteArray → List (S67) → Int → List Int → Int → Int → List (S67) → Int → Int → ByteArray → ByteArray → Int → Option (Bool)
 | 0, _, _, _, _, _, _, _, _, _, _, _, _ => none
 | k + 1, x0, x7, x8, x15, x18, x19, x118, x119, x120, x172000, x172001, x172002 => if x18 < (x15.length : Int) then (if 0 ≤ x18 then (if (rd x15 x18) ≥ 0 then (gridhalllaw3_LedgerSettles.l3 k x0 x7 x8 x15 (wrap64 (x18 + 1)) x19 x118 x119 x120 x172000 x172001 x172002) else (gridhalllaw3_LedgerSettles.j9 k x0 x7 x8 x15 x18 x19 x118 x119 x120 x172000 x172001 x172002)) else (none)) else (gridhalllaw3_LedgerSettles.j9 k x0 x7 x8 x15 x18 x19 x118 x119 x120 x172000 x172001 x172002)
def gridhalllaw3_LedgerSettles.l5 : Nat → List ByteArray → List (S67) → Int → List Int → Int → Int → Option (Bool)
 | 0, _, _, _, _, _, _ => none
 | k + 1, x0, x7, x8, x204, x205, x206 => if x206 < x205 then (if 0 ≤ x206 then (if x206 < (x204.length : Int) then (if (rd x204 x206) = 0 then (gridhalllaw3_LedgerSettles.l5 k x0 x7 x8 x204 x205 (wrap64 (x206 + 1))) else (some false)) else (none)) else (none)) else (if x8 = 0 then (if (x7.length : Int) = 0 then (some true) else (some (decide ((x7.length : Int) < (x0.length : Int))))) else (some false))
end
def gridhalllaw3_LedgerSettles.f (k : Nat) (l0 : List ByteArray) (l1 : List Int) : Option (Bool) := (ledger_Settle.f k (([(⟨#[65]⟩ : ByteArray), (⟨#[66]⟩ : ByteArray), (⟨#[67]⟩ : ByteArray)] : List ByteArray)) (([(-5), 3, 2] : List Int))).bind fun bt148 => (if bt148.2 = 0 then (gridhalllaw3_LedgerSettles.j0 k l0 l1 ((bt148.1.length : Int) != 2)) else (gridhalllaw3_LedgerSettles.j0 k l0 l1 true))
theorem gridhalllaw3_LedgerSettles.mono_l : ∀ k, (∀ y0 y1 y2, LeO (gridhalllaw3_LedgerSettles.j0 k y0 y1 y2) (gridhalllaw3_LedgerSettles.j0 (k + 1) y0 y1 y2)) ∧ (∀ y0 y1 y2 y3 y4, LeO (gridhalllaw3_LedgerSettles.j1 k y0 y1 y2 y3 y4) (gridhalllaw3_LedgerSettles.j1 (k + 1) y0 y1 y2 y3 y4)) ∧ (∀ y0 y1 y2 y3 y4 y5 y6, LeO (gridhalllaw3_LedgerSettles.l0 k y0 y1 y2 y3 y4 y5 y6) (gridhalllaw3_LedgerSettles.l0 (k + 1) y0 y1 y2 y3 y4 y5 y6)) ∧ (∀ y0 y1 y2 y3 y4 y5 y6 y7, LeO (gridhalllaw3_LedgerSettles.j3 k y0 y1 y2 y3 y4 y5 y6 y7) (gridhalllaw3_LedgerSettles.j3 (k + 1) y0 y1 y2 y3 y4 y5 y6 y7)) ∧ (∀ y0 y1 y2 y3 y4 y5 y6 y7 y8 y9 y10, LeO (gridhalllaw3_LedgerSettles.l1 k y0 y1 y2 y3 y4 y5 y6 y7 y8 y9 y10) (gridhalllaw3_LedgerSettles.l1 (k + 1) y0 y1 y2 y3 y4 y5 y6 y7 y8 y9 y10)) ∧ (∀ y0 y1 y2 y3 y4 y5, LeO (gridhalllaw3_LedgerSettles.j5 k y0 y1 y2 y3 y4 y5) (gridhalllaw3_LedgerSettles.j5 (k + 1) y0 y1 y2 y3 y4 y5)) ∧ (∀ y0 y1 y2 y3 y4, LeO (gridhalllaw3_LedgerSettles.j6 k y0 y1 y2 y3 y4) (gridhalllaw3_LedgerSettles.j6 (k + 1) y0 y1 y2 y3 y4)) ∧ (∀ y0 y1 y2 y3 y4 y5 y6, LeO (gridhalllaw3_LedgerSettles.l2 k y0 y1 y2 y3 y4 y5 y6) (gridhalllaw3_LedgerSettles.l2 (k + 1) y0 y1 y2 y3 y4 y5 y6)) ∧ (∀ y0 y1 y2 y3 y4 y5 y6 y7 y8 y9 y10 y11, LeO (gridhalllaw3_LedgerSettles.j9 k y0 y1 y2 y3 y4 y5 y6 y7 y8 y9 y10 y11) (gridhalllaw3_LedgerSettles.j9 (k + 1) y0 y1 y2 y3 y4 y5 y6 y7 y8 y9 y10 y11)) ∧ (∀ y0 y1 y2 y3 y4 y5 y6 y7 y8 y9 y10 y11, LeO (gridhalllaw3_LedgerSettles.l4 k y0 y1 y2 y3 y4 y5 y6 y7 y8 y9 y10 y11) (gridhalllaw3_LedgerSettles.l4 (k + 1) y0 y1 y2 y3 y4 y5 y6 y7 y8 y9 y10 y11)) ∧ (∀ y0 y1 y2 y3 y4 y5 y6 y7 y8 y9 y10 y11, LeO (gridhalllaw3_LedgerSettles.l3 k y0 y1 y2 y3 y4 y5 y6 y7 y8 y9 y10 y11) (gridhalllaw3_LedgerSettles.l3 (k + 1) y0 y1 y2 y3 y4 y5 y6 y7 y8 y9 y10 y11)) ∧ (∀ y0 y1 y2 y3 y4 y5, LeO (gridhalllaw3_LedgerSettles.l5 k y0 y1 y2 y3 y4 y5) (gridhalllaw3_LedgerSettles.l5 (k + 1) y0 y1 y2 y3 y4 y5))
 | 0 => ⟨fun _ _ _ r h => by simp [gridhalllaw3_LedgerSettles.j0] at h, fun _ _ _ _ _ r h => by simp [gridhalllaw3_LedgerSettles.j1] at h, fun _ _ _ _ _ _ _ r h => by simp [gridhalllaw3_LedgerSettles.l0] at h, fun _ _ _ _ _ _ _ _ r h => by simp [gridhalllaw3_LedgerSettles.j3] at h, fun _ _ _ _ _ _ _ _ _ _ _ r h => by simp [gridhalllaw3_LedgerSettles.l1] at h, fun _ _ _ _ _ _ r h => by simp [gridhalllaw3_LedgerSettles.j5] at h, fun _ _ _ _ _ r h => by simp [gridhalllaw3_LedgerSettles.j6] at h, fun _ _ _ _ _ _ _ r h => by simp [gridhalllaw3_LedgerSettles.l2] at h, fun _ _ _ _ _ _ _ _ _ _ _ _ r h => by simp [gridhalllaw3_LedgerSettles.j9] at h, fun _ _ _ _ _ _ _ _ _ _ _ _ r h => by simp [gridhalllaw3_LedgerSettles.l4] at h, fun _ _ _ _ _ _ _ _ _ _ _ _ r h => by simp [gridhalllaw3_LedgerSettles.l3] at h, fun _ _ _ _ _ _ r h => by simp [gridhalllaw3_LedgerSettles.l5] at h⟩
 | k + 1 => by
  obtain ⟨ih0, ih1, ih2, ih3, ih4, ih5, ih6, ih7, ih8, ih9, ih10, ih11⟩ := gridhalllaw3_LedgerSettles.mono_l k
  refine ⟨?_, ?_, ?_, ?_, ?_, ?_, ?_, ?_, ?_, ?_, ?_, ?_⟩
  ·intro y0 y1 y2
   unfold gridhalllaw3_LedgerSettles.j0
   repeat' first
   | (with_reducible exact ih0 _ _ _)
   | (with_reducible exact ih1 _ _ _ _ _)
   | (with_reducible exact ih2 _ _ _ _ _ _ _)
   | (with_reducible exact ih3 _ _ _ _ _ _ _ _)
   | (with_reducible exact ih4 _ _ _ _ _ _ _ _ _ _ _)
   | (with_reducible exact ih5 _ _ _ _ _ _)
   | (with_reducible exact ih6 _ _ _ _ _)
   | (with_reducible exact ih7 _ _ _ _ _ _ _)
   | (with_reducible exact ih8 _ _ _ _ _ _ _ _ _ _ _ _)
   | (with_reducible exact ih9 _ _ _ _ _ _ _ _ _ _ _ _)
   | (with_reducible exact ih10 _ _ _ _ _ _ _ _ _ _ _ _)
   | (with_reducible exact ih11 _ _ _ _ _ _)
   | (with_reducible exact gridhallref3_Named.mono _ _)
   | (with_reducible exact ledger_Settle.mono _ _ _)
   | (with_reducible exact LeO.refl _)
   | (with_reducible exact LeO.none _)
   | (with_reducible refine LeO.ite ?_ ?_)
   | (with_reducible refine LeO.bind ?_ (fun _ => ?_))
   | exact ih0 _ _ _
   | exact ih1 _ _ _ _ _
   | exact ih2 _ _ _ _ _ _ _
   | exact ih3 _ _ _ _ _ _ _ _
   | exact ih4 _ _ _ _ _ _ _ _ _ _ _
   | exact ih5 _ _ _ _ _ _
   | exact ih6 _ _ _ _ _
   | exact ih7 _ _ _ _ _ _ _
   | exact ih8 _ _ _ _ _ _ _ _ _ _ _ _
   | exact ih9 _ _ _ _ _ _ _ _ _ _ _ _
   | exact ih10 _ _ _ _ _ _ _ _ _ _ _ _
   | exact ih11 _ _ _ _ _ _
   | exact gridhallref3_Named.mono _ _
   | exact ledger_Settle.mono _ _ _
   | exact LeO.none _
   | refine LeO.ite ?_ ?_
   | refine LeO.bind ?_ (fun _ => ?_)
  ·intro y0 y1 y2 y3 y4
   unfold gridhalllaw3_LedgerSettles.j1
   repeat' first
   | (with_reducible exact ih0 _ _ _)
   | (with_reducible exact ih1 _ _ _ _ _)
   | (with_reducible exact ih2 _ _ _ _ _ _ _)
   | (with_reducible exact ih3 _ _ _ _ _ _ _ _)
   | (with_reducible exact ih4 _ _ _ _ _ _ _ _ _ _ _)
   | (with_reducible exact ih5 _ _ _ _ _ _)
   | (with_reducible exact ih6 _ _ _ _ _)
   | (with_reducible exact ih7 _ _ _ _ _ _ _)
   | (with_reducible exact ih8 _ _ _ _ _ _ _ _ _ _ _ _)
   | (with_reducible exact ih9 _ _ _ _ _ _ _ _ _ _ _ _)
   | (with_reducible exact ih10 _ _ _ _ _ _ _ _ _ _ _ _)
   | (with_reducible exact ih11 _ _ _ _ _ _)
   | (with_reducible exact gridhallref3_Named.mono _ _)
   | (with_reducible exact ledger_Settle.mono _ _ _)
   | (with_reducible exact LeO.refl _)
   | (with_reducible exact LeO.none _)
   | (with_reducible refine LeO.ite ?_ ?_)
   | (with_reducible refine LeO.bind ?_ (fun _ => ?_))
   | exact ih0 _ _ _
   | exact ih1 _ _ _ _ _
   | exact ih2 _ _ _ _ _ _ _
   | exact ih3 _ _ _ _ _ _ _ _
   | exact ih4 _ _ _ _ _ _ _ _ _ _ _
   | exact ih5 _ _ _ _ _ _
   | exact ih6 _ _ _ _ _
   | exact ih7 _ _ _ _ _ _ _
   | exact ih8 _ _ _ _ _ _ _ _ _ _ _ _
   | exact ih9 _ _ _ _ _ _ _ _ _ _ _ _
   | exact ih10 _ _ _ _ _ _ _ _ _ _ _ _
   | exact ih11 _ _ _ _ _ _
   | exact gridhallref3_Named.mono _ _
   | exact ledger_Settle.mono _ _ _
   | exact LeO.none _
   | refine LeO.ite ?_ ?_
   | refine LeO.bind ?_ (fun _ => ?_)
  ·intro y0 y1 y2 y3 y4 y5 y6
   unfold gridhalllaw3_LedgerSettles.l0
   repeat' first
   | (with_reducible exact ih0 _ _ _)
   | (with_reducible exact ih1 _ _ _ _ _)
   | (with_reducible exact ih2 _ _ _ _ _ _ _)
   | (with_reducible exact ih3 _ _ _ _ _ _ _ _)
   | (with_reducible exact ih4 _ _ _ _ _ _ _ _ _ _ _)
   | (with_reducible exact ih5 _ _ _ _ _ _)
   | (with_reducible exact ih6 _ _ _ _ _)
   | (with_reducible exact ih7 _ _ _ _ _ _ _)
   | (with_reducible exact ih8 _ _ _ _ _ _ _ _ _ _ _ _)
   | (with_reducible exact ih9 _ _ _ _ _ _ _ _ _ _ _ _)
   | (with_reducible exact ih10 _ _ _ _ _ _ _ _ _ _ _ _)
   | (with_reducible exact ih11 _ _ _ _ _ _)
   | (with_reducible exact gridhallref3_Named.mono _ _)
   | (with_reducible exact ledger_Settle.mono _ _ _)
   | (with_reducible exact LeO.refl _)
   | (with_reducible exact LeO.none _)
   | (with_reducible refine LeO.ite ?_ ?_)
   | (with_reducible refine LeO.bind ?_ (fun _ => ?_))
   | exact ih0 _ _ _
   | exact ih1 _ _ _ _ _
   | exact ih2 _ _ _ _ _ _ _
   | exact ih3 _ _ _ _ _ _ _ _
   | exact ih4 _ _ _ _ _ _ _ _ _ _ _
   | exact ih5 _ _ _ _ _ _
   | exact ih6 _ _ _ _ _
   | exact ih7 _ _ _ _ _ _ _
   | exact ih8 _ _ _ _ _ _ _ _ _ _ _ _
   | exact ih9 _ _ _ _ _ _ _ _ _ _ _ _
   | exact ih10 _ _ _ _ _ _ _ _ _ _ _ _
   | exact ih11 _ _ _ _ _ _
   | exact gridhallref3_Named.mono _ _
   | exact ledger_Settle.mono _ _ _
   | exact LeO.none _
   | refine LeO.ite ?_ ?_
   | refine LeO.bind ?_ (fun _ => ?_)
  ·intro y0 y1 y2 y3 y4 y5 y6 y7
   unfold gridhalllaw3_LedgerSettles.j3
   repeat' first
   | (with_reducible exact ih0 _ _ _)
   | (with_reducible exact ih1 _ _ _ _ _)
   | (with_reducible exact ih2 _ _ _ _ _ _ _)
   | (with_reducible exact ih3 _ _ _ _ _ _ _ _)
   | (with_reducible exact ih4 _ _ _ _ _ _ _ _ _ _ _)
   | (with_reducible exact ih5 _ _ _ _ _ _)
   | (with_reducible exact ih6 _ _ _ _ _)
   | (with_reducible exact ih7 _ _ _ _ _ _ _)
   | (with_reducible exact ih8 _ _ _ _ _ _ _ _ _ _ _ _)
   | (with_reducible exact ih9 _ _ _ _ _ _ _ _ _ _ _ _)
   | (with_reducible exact ih10 _ _ _ _ _ _ _ _ _ _ _ _)
   | (with_reducible exact ih11 _ _ _ _ _ _)
   | (with_reducible exact gridhallref3_Named.mono _ _)
   | (with_reducible exact ledger_Settle.mono _ _ _)
   | (with_reducible exact LeO.refl _)
   | (with_reducible exact LeO.none _)
   | (with_reducible refine LeO.ite ?_ ?_)
   | (with_reducible refine LeO.bind ?_ (fun _ => ?_))
   | exact ih0 _ _ _
   | exact ih1 _ _ _ _ _
   | exact ih2 _ _ _ _ _ _ _
   | exact ih3 _ _ _ _ _ _ _ _
   | exact ih4 _ _ _ _ _ _ _ _ _ _ _
   | exact ih5 _ _ _ _ _ _
   | exact ih6 _ _ _ _ _
   | exact ih7 _ _ _ _ _ _ _
   | exact ih8 _ _ _ _ _ _ _ _ _ _ _ _
   | exact ih9 _ _ _ _ _ _ _ _ _ _ _ _
   | exact ih10 _ _ _ _ _ _ _ _ _ _ _ _
   | exact ih11 _ _ _ _ _ _
   | exact gridhallref3_Named.mono _ _
   | exact ledger_Settle.mono _ _ _
   | exact LeO.none _
   | refine LeO.ite ?_ ?_
   | refine LeO.bind ?_ (fun _ => ?_)
  ·intro y0 y1 y2 y3 y4 y5 y6 y7 y8 y9 y10
   unfold gridhalllaw3_LedgerSettles.l1
   repeat' first
   | (with_reducible exact ih0 _ _ _)
   | (with_reducible exact ih1 _ _ _ _ _)
   | (with_reducible exact ih2 _ _ _ _ _ _ _)
   | (with_reducible exact ih3 _ _ _ _ _ _ _ _)
   | (with_reducible exact ih4 _ _ _ _ _ _ _ _ _ _ _)
   | (with_reducible exact ih5 _ _ _ _ _ _)
   | (with_reducible exact ih6 _ _ _ _ _)
   | (with_reducible exact ih7 _ _ _ _ _ _ _)
   | (with_reducible exact ih8 _ _ _ _ _ _ _ _ _ _ _ _)
   | (with_reducible exact ih9 _ _ _ _ _ _ _ _ _ _ _ _)
   | (with_reducible exact ih10 _ _ _ _ _ _ _ _ _ _ _ _)
   | (with_reducible exact ih11 _ _ _ _ _ _)
   | (with_reducible exact gridhallref3_Named.mono _ _)
   | (with_reducible exact ledger_Settle.mono _ _ _)
   | (with_reducible exact LeO.refl _)
   | (with_reducible exact LeO.none _)
   | (with_reducible refine LeO.ite ?_ ?_)
   | (with_reducible refine LeO.bind ?_ (fun _ => ?_))
   | exact ih0 _ _ _
   | exact ih1 _ _ _ _ _
   | exact ih2 _ _ _ _ _ _ _
   | exact ih3 _ _ _ _ _ _ _ _
   | exact ih4 _ _ _ _ _ _ _ _ _ _ _
   | exact ih5 _ _ _ _ _ _
   | exact ih6 _ _ _ _ _
   | exact ih7 _ _ _ _ _ _ _
   | exact ih8 _ _ _ _ _ _ _ _ _ _ _ _
   | exact ih9 _ _ _ _ _ _ _ _ _ _ _ _
   | exact ih10 _ _ _ _ _ _ _ _ _ _ _ _
   | exact ih11 _ _ _ _ _ _
   | exact gridhallref3_Named.mono _ _
   | exact ledger_Settle.mono _ _ _
   | exact LeO.none _
   | refine LeO.ite ?_ ?_
   | refine LeO.bind ?_ (fun _ => ?_)
  ·intro y0 y1 y2 y3 y4 y5
   unfold gridhalllaw3_LedgerSettles.j5
   repeat' first
   | (with_reducible exact ih0 _ _ _)
   | (with_reducible exact ih1 _ _ _ _ _)
   | (with_reducible exact ih2 _ _ _ _ _ _ _)
   | (with_reducible exact ih3 _ _ _ _ _ _ _ _)
   | (with_reducible exact ih4 _ _ _ _ _ _ _ _ _ _ _)
   | (with_reducible exact ih5 _ _ _ _ _ _)
   | (with_reducible exact ih6 _ _ _ _ _)
   | (with_reducible exact ih7 _ _ _ _ _ _ _)
   | (with_reducible exact ih8 _ _ _ _ _ _ _ _ _ _ _ _)
   | (with_reducible exact ih9 _ _ _ _ _ _ _ _ _ _ _ _)
   | (with_reducible exact ih10 _ _ _ _ _ _ _ _ _ _ _ _)
   | (with_reducible exact ih11 _ _ _ _ _ _)
   | (with_reducible exact gridhallref3_Named.mono _ _)
   | (with_reducible exact ledger_Settle.mono _ _ _)
   | (with_reducible exact LeO.refl _)
   | (with_reducible exact LeO.none _)
   | (with_reducible refine LeO.ite ?_ ?_)
   | (with_reducible refine LeO.bind ?_ (fun _ => ?_))
   | exact ih0 _ _ _
   | exact ih1 _ _ _ _ _
   | exact ih2 _ _ _ _ _ _ _
   | exact ih3 _ _ _ _ _ _ _ _
   | exact ih4 _ _ _ _ _ _ _ _ _ _ _
   | exact ih5 _ _ _ _ _ _
   | exact ih6 _ _ _ _ _
   | exact ih7 _ _ _ _ _ _ _
   | exact ih8 _ _ _ _ _ _ _ _ _ _ _ _
   | exact ih9 _ _ _ _ _ _ _ _ _ _ _ _
   | exact ih10 _ _ _ _ _ _ _ _ _ _ _ _
   | exact ih11 _ _ _ _ _ _
   | exact gridhallref3_Named.mono _ _
   | exact ledger_Settle.mono _ _ _
   | exact LeO.none _
   | refine LeO.ite ?_ ?_
   | refine LeO.bind ?_ (fun _ => ?_)
  ·intro y0 y1 y2 y3 y4
   unfold gridhalllaw3_LedgerSettles.j6
   repeat' first
   | (with_reducible exact ih0 _ _ _)
   | (with_reducible exact ih1 _ _ _ _ _)
   | (with_reducible exact ih2 _ _ _ _ _ _ _)
   | (with_reducible exact ih3 _ _ _ _ _ _ _ _)
   | (with_reducible exact ih4 _ _ _ _ _ _ _ _ _ _ _)
   | (with_reducible exact ih5 _ _ _ _ _ _)
   | (with_reducible exact ih6 _ _ _ _ _)
   | (with_reducible exact ih7 _ _ _ _ _ _ _)
   | (with_reducible exact ih8 _ _ _ _ _ _ _ _ _ _ _ _)
   | (with_reducible exact ih9 _ _ _ _ _ _ _ _ _ _ _ _)
   | (with_reducible exact ih10 _ _ _ _ _ _ _ _ _ _ _ _)
   | (with_reducible exact ih11 _ _ _ _ _ _)
   | (with_reducible exact gridhallref3_Named.mono _ _)
   | (with_reducible exact ledger_Settle.mono _ _ _)
   | (with_reducible exact LeO.refl _)
   | (with_reducible exact LeO.none _)
   | (with_reducible refine LeO.ite ?_ ?_)
   | (with_reducible refine LeO.bind ?_ (fun _ => ?_))
   | exact ih0 _ _ _
   | exact ih1 _ _ _ _ _
   | exact ih2 _ _ _ _ _ _ _
   | exact ih3 _ _ _ _ _ _ _ _
   | exact ih4 _ _ _ _ _ _ _ _ _ _ _
   | exact ih5 _ _ _ _ _ _
   | exact ih6 _ _ _ _ _
   | exact ih7 _ _ _ _ _ _ _
   | exact ih8 _ _ _ _ _ _ _ _ _ _ _ _
   | exact ih9 _ _ _ _ _ _ _ _ _ _ _ _
   | exact ih10 _ _ _ _ _ _ _ _ _ _ _ _
   | exact ih11 _ _ _ _ _ _
   | exact gridhallref3_Named.mono _ _
   | exact ledger_Settle.mono _ _ _
   | exact LeO.none _
   | refine LeO.ite ?_ ?_
   | refine LeO.bind ?_ (fun _ => ?_)
  ·intro y0 y1 y2 y3 y4 y5 y6
   unfold gridhalllaw3_LedgerSettles.l2
   repeat' first
   | (with_reducible exact ih0 _ _ _)
   | (with_reducible exact ih1 _ _ _ _ _)
   | (with_reducible exact ih2 _ _ _ _ _ _ _)
   | (with_reducible exact ih3 _ _ _ _ _ _ _ _)
   | (with_reducible exact ih4 _ _ _ _ _ _ _ _ _ _ _)
   | (with_reducible exact ih5 _ _ _ _ _ _)
   | (with_reducible exact ih6 _ _ _ _ _)
   | (with_reducible exact ih7 _ _ _ _ _ _ _)
   | (with_reducible exact ih8 _ _ _ _ _ _ _ _ _ _ _ _)
   | (with_reducible exact ih9 _ _ _ _ _ _ _ _ _ _ _ _)
   | (with_reducible exact ih10 _ _ _ _ _ _ _ _ _ _ _ _)
   | (with_reducible exact ih11 _ _ _ _ _ _)
   | (with_reducible exact gridhallref3_Named.mono _ _)
   | (with_reducible exact ledger_Settle.mono _ _ _)
   | (with_reducible exact LeO.refl _)
   | (with_reducible exact LeO.none _)
   | (with_reducible refine LeO.ite ?_ ?_)
   | (with_reducible refine LeO.bind ?_ (fun _ => ?_))
   | exact ih0 _ _ _
   | exact ih1 _ _ _ _ _
   | exact ih2 _ _ _ _ _ _ _
   | exact ih3 _ _ _ _ _ _ _ _
   | exact ih4 _ _ _ _ _ _ _ _ _ _ _
   | exact ih5 _ _ _ _ _ _
   | exact ih6 _ _ _ _ _
   | exact ih7 _ _ _ _ _ _ _
   | exact ih8 _ _ _ _ _ _ _ _ _ _ _ _
   | exact ih9 _ _ _ _ _ _ _ _ _ _ _ _
   | exact ih10 _ _ _ _ _ _ _ _ _ _ _ _
   | exact ih11 _ _ _ _ _ _
   | exact gridhallref3_Named.mono _ _
   | exact ledger_Settle.mono _ _ _
   | exact LeO.none _
   | refine LeO.ite ?_ ?_
   | refine LeO.bind ?_ (fun _ => ?_)
  ·intro y0 y1 y2 y3 y4 y5 y6 y7 y8 y9 y10 y11
   unfold gridhalllaw3_LedgerSettles.j9
   repeat' first
   | (with_reducible exact ih0 _ _ _)
   | (with_reducible exact ih1 _ _ _ _ _)
   | (with_reducible exact ih2 _ _ _ _ _ _ _)
   | (with_reducible exact ih3 _ _ _ _ _ _ _ _)
   | (with_reducible exact ih4 _ _ _ _ _ _ _ _ _ _ _)
   | (with_reducible exact ih5 _ _ _ _ _ _)
   | (with_reducible exact ih6 _ _ _ _ _)
   | (with_reducible exact ih7 _ _ _ _ _ _ _)
   | (with_reducible exact ih8 _ _ _ _ _ _ _ _ _ _ _ _)
   | (with_reducible exact ih9 _ _ _ _ _ _ _ _ _ _ _ _)
   | (with_reducible exact ih10 _ _ _ _ _ _ _ _ _ _ _ _)
   | (with_reducible exact ih11 _ _ _ _ _ _)
   | (with_reducible exact gridhallref3_Named.mono _ _)
   | (with_reducible exact ledger_Settle.mono _ _ _)
   | (with_reducible exact LeO.refl _)
   | (with_reducible exact LeO.none _)
   | (with_reducible refine LeO.ite ?_ ?_)
   | (with_reducible refine LeO.bind ?_ (fun _ => ?_))
   | exact ih0 _ _ _
   | exact ih1 _ _ _ _ _
   | exact ih2 _ _ _ _ _ _ _
   | exact ih3 _ _ _ _ _ _ _ _
   | exact ih4 _ _ _ _ _ _ _ _ _ _ _
   | exact ih5 _ _ _ _ _ _
   | exact ih6 _ _ _ _ _
   | exact ih7 _ _ _ _ _ _ _
   | exact ih8 _ _ _ _ _ _ _ _ _ _ _ _
   | exact ih9 _ _ _ _ _ _ _ _ _ _ _ _
   | exact ih10 _ _ _ _ _ _ _ _ _ _ _ _
   | exact ih11 _ _ _ _ _ _
   | exact gridhallref3_Named.mono _ _
   | exact ledger_Settle.mono _ _ _
   | exact LeO.none _
   | refine LeO.ite ?_ ?_
   | refine LeO.bind ?_ (fun _ => ?_)
  ·intro y0 y1 y2 y3 y4 y5 y6 y7 y8 y9 y10 y11
   unfold gridhalllaw3_LedgerSettles.l4
   repeat' first
   | (with_reducible exact ih0 _ _ _)
   | (with_reducible exact ih1 _ _ _ _ _)
   | (with_reducible exact ih2 _ _ _ _ _ _ _)
   | (with_reducible exact ih3 _ _ _ _ _ _ _ _)
   | (with_reducible exact ih4 _ _ _ _ _ _ _ _ _ _ _)
   | (with_reducible exact ih5 _ _ _ _ _ _)
   | (with_reducible exact ih6 _ _ _ _ _)
   | (with_reducible exact ih7 _ _ _ _ _ _ _)
   | (with_reducible exact ih8 _ _ _ _ _ _ _ _ _ _ _ _)
   | (with_reducible exact ih9 _ _ _ _ _ _ _ _ _ _ _ _)
   | (with_reducible exact ih10 _ _ _ _ _ _ _ _ _ _ _ _)
   | (with_reducible exact ih11 _ _ _ _ _ _)
   | (with_reducible exact gridhallref3_Named.mono _ _)
   | (with_reducible exact ledger_Settle.mono _ _ _)
   | (with_reducible exact LeO.refl _)
   | (with_reducible exact LeO.none _)
   | (with_reducible refine LeO.ite ?_ ?_)
   | (with_reducible refine LeO.bind ?_ (fun _ => ?_))
   | exact ih0 _ _ _
   | exact ih1 _ _ _ _ _
   | exact ih2 _ _ _ _ _ _ _
   | exact ih3 _ _ _ _ _ _ _ _
   | exact ih4 _ _ _ _ _ _ _ _ _ _ _
   | exact ih5 _ _ _ _ _ _
   | exact ih6 _ _ _ _ _
   | exact ih7 _ _ _ _ _ _ _
   | exact ih8 _ _ _ _ _ _ _ _ _ _ _ _
   | exact ih9 _ _ _ _ _ _ _ _ _ _ _ _
   | exact ih10 _ _ _ _ _ _ _ _ _ _ _ _
   | exact ih11 _ _ _ _ _ _
   | exact gridhallref3_Named.mono _ _
   | exact ledger_Settle.mono _ _ _
   | exact LeO.none _
   | refine LeO.ite ?_ ?_
   | refine LeO.bind ?_ (fun _ => ?_)
  ·intro y0 y1 y2 y3 y4 y5 y6 y7 y8 y9 y10 y11
   unfold gridhalllaw3_LedgerSettles.l3
   repeat' first
   | (with_reducible exact ih0 _ _ _)
   | (with_reducible exact ih1 _ _ _ _ _)
   | (with_reducible exact ih2 _ _ _ _ _ _ _)
   | (with_reducible exact ih3 _ _ _ _ _ _ _ _)
   | (with_reducible exact ih4 _ _ _ _ _ _ _ _ _ _ _)
   | (with_reducible exact ih5 _ _ _ _ _ _)
   | (with_reducible exact ih6 _ _ _ _ _)
   | (with_reducible exact ih7 _ _ _ _ _ _ _)
   | (with_reducible exact ih8 _ _ _ _ _ _ _ _ _ _ _ _)
   | (with_reducible exact ih9 _ _ _ _ _ _ _ _ _ _ _ _)
   | (with_reducible exact ih10 _ _ _ _ _ _ _ _ _ _ _ _)
   | (with_reducible exact ih11 _ _ _ _ _ _)
   | (with_reducible exact gridhallref3_Named.mono _ _)
   | (with_reducible exact ledger_Settle.mono _ _ _)
   | (with_reducible exact LeO.refl _)
   | (with_reducible exact LeO.none _)
   | (with_reducible refine LeO.ite ?_ ?_)
   | (with_reducible refine LeO.bind ?_ (fun _ => ?_))
   | exact ih0 _ _ _
   | exact ih1 _ _ _ _ _
   | exact ih2 _ _ _ _ _ _ _
   | exact ih3 _ _ _ _ _ _ _ _
   | exact ih4 _ _ _ _ _ _ _ _ _ _ _
   | exact ih5 _ _ _ _ _ _
   | exact ih6 _ _ _ _ _
   | exact ih7 _ _ _ _ _ _ _
   | exact ih8 _ _ _ _ _ _ _ _ _ _ _ _
   | exact ih9 _ _ _ _ _ _ _ _ _ _ _ _
   | exact ih10 _ _ _ _ _ _ _ _ _ _ _ _
   | exact ih11 _ _ _ _ _ _
   | exact gridhallref3_Named.mono _ _
   | exact ledger_Settle.mono _ _ _
   | exact LeO.none _
   | refine LeO.ite ?_ ?_
   | refine LeO.bind ?_ (fun _ => ?_)
  ·intro y0 y1 y2 y3 y4 y5
   unfold gridhalllaw3_LedgerSettles.l5
   repeat' first
   | (with_reducible exact ih0 _ _ _)
   | (with_reducible exact ih1 _ _ _ _ _)
   | (with_reducible exact ih2 _ _ _ _ _ _ _)
   | (with_reducible exact ih3 _ _ _ _ _ _ _ _)
   | (with_reducible exact ih4 _ _ _ _ _ _ _ _ _ _ _)
   | (with_reducible exact ih5 _ _ _ _ _ _)
   | (with_reducible exact ih6 _ _ _ _ _)
   | (with_reducible exact ih7 _ _ _ _ _ _ _)
   | (with_reducible exact ih8 _ _ _ _ _ _ _ _ _ _ _ _)
   | (with_reducible exact ih9 _ _ _ _ _ _ _ _ _ _ _ _)
   | (with_reducible exact ih10 _ _ _ _ _ _ _ _ _ _ _ _)
   | (with_reducible exact ih11 _ _ _ _ _ _)
   | (with_reducible exact gridhallref3_Named.mono _ _)
   | (with_reducible exact ledger_Settle.mono _ _ _)
   | (with_reducible exact LeO.refl _)
   | (with_reducible exact LeO.none _)
   | (with_reducible refine LeO.ite ?_ ?_)
   | (with_reducible refine LeO.bind ?_ (fun _ => ?_))
   | exact ih0 _ _ _
   | exact ih1 _ _ _ _ _
   | exact ih2 _ _ _ _ _ _ _
   | exact ih3 _ _ _ _ _ _ _ _
   | exact ih4 _ _ _ _ _ _ _ _ _ _ _
   | exact ih5 _ _ _ _ _ _
   | exact ih6 _ _ _ _ _
   | exact ih7 _ _ _ _ _ _ _
   | exact ih8 _ _ _ _ _ _ _ _ _ _ _ _
   | exact ih9 _ _ _ _ _ _ _ _ _ _ _ _
   | exact ih10 _ _ _ _ _ _ _ _ _ _ _ _
   | exact ih11 _ _ _ _ _ _
   | exact gridhallref3_Named.mono _ _
   | exact ledger_Settle.mono _ _ _
   | exact LeO.none _
   | refine LeO.ite ?_ ?_
   | refine LeO.bind ?_ (fun _ => ?_)
theorem gridhalllaw3_LedgerSettles.mono : ∀ a0 a1 k, LeO (gridhalllaw3_LedgerSettles.f k a0 a1) (gridhalllaw3_LedgerSettles.f (k + 1) a0 a1) := by
 intro a0 a1 k
 obtain ⟨ih0, ih1, ih2, ih3, ih4, ih5, ih6, ih7, ih8, ih9, ih10, ih11⟩ := gridhalllaw3_LedgerSettles.mono_l k
 unfold gridhalllaw3_LedgerSettles.f
 repeat' first
   | (with_reducible exact ih0 _ _ _)
   | (with_reducible exact ih1 _ _ _ _ _)
   | (with_reducible exact ih2 _ _ _ _ _ _ _)
   | (with_reducible exact ih3 _ _ _ _ _ _ _ _)
   | (with_reducible exact ih4 _ _ _ _ _ _ _ _ _ _ _)
   | (with_reducible exact ih5 _ _ _ _ _ _)
   | (with_reducible exact ih6 _ _ _ _ _)
   | (with_reducible exact ih7 _ _ _ _ _ _ _)
   | (with_reducible exact ih8 _ _ _ _ _ _ _ _ _ _ _ _)
   | (with_reducible exact ih9 _ _ _ _ _ _ _ _ _ _ _ _)
   | (with_reducible exact ih10 _ _ _ _ _ _ _ _ _ _ _ _)
   | (with_reducible exact ih11 _ _ _ _ _ _)
   | (with_reducible exact gridhallref3_Named.mono _ _)
   | (with_reducible exact ledger_Settle.mono _ _ _)
   | (with_reducible exact LeO.refl _)
   | (with_reducible exact LeO.none _)
   | (with_reducible refine LeO.ite ?_ ?_)
   | (with_reducible refine LeO.bind ?_ (fun _ => ?_))
   | exact ih0 _ _ _
   | exact ih1 _ _ _ _ _
   | exact ih2 _ _ _ _ _ _ _
   | exact ih3 _ _ _ _ _ _ _ _
   | exact ih4 _ _ _ _ _ _ _ _ _ _ _
   | exact ih5 _ _ _ _ _ _
   | exact ih6 _ _ _ _ _
   | exact ih7 _ _ _ _ _ _ _
   | exact ih8 _ _ _ _ _ _ _ _ _ _ _ _
   | exact ih9 _ _ _ _ _ _ _ _ _ _ _ _
   | exact ih10 _ _ _ _ _ _ _ _ _ _ _ _
   | exact ih11 _ _ _ _ _ _
   | exact gridhallref3_Named.mono _ _
   | exact ledger_Settle.mono _ _ _
   | exact LeO.none _
   | refine LeO.ite ?_ ?_
   | refine LeO.bind ?_ (fun _ => ?_)
def gridhalllaw3_LedgerSettles.T40 : Bool × List (List Nat × List Nat) := (true, [([], []), ([], []), ([1], [1]), ([0, 2], [0, 2]), ([3], [3]), ([4], [4]), ([4], [4]), ([6, 4], [4, 6]), ([5, 7, 4], [4, 5, 7]), ([4, 8], [4, 8]), ([9, 4], [9]), ([10], [10]), ([10], [10]), ([10], [10]), ([12, 13, 10], [10, 12, 13]), ([14, 10], [10, 14]), ([10], [10]), ([10], [10]), ([16, 17, 10], [10, 16, 17]), ([18, 10], [10, 18]), ([10], [10]), ([10], [10]), ([20, 21, 10], [10, 20, 21]), ([22, 10], [10, 22]), ([23, 10], [10, 23]), ([10], [10]), ([10], [10]), ([25, 26, 10], [10, 25, 26]), ([27, 10], [10, 27]), ([24, 28, 10], [10, 24, 28]), ([15, 19, 29, 10], [10, 15, 19, 29]), ([11, 30, 10], [10, 11, 30]), ([10, 31], [10, 31])])
def gridhalllaw3_LedgerSettles.B40 : List Nat := [0, 0, 2, 7, 15, 31, 31, 95, 255, 511, 1023, 2047, 2047, 2047, 14335, 30719, 2047, 2047, 198655, 460799, 2047, 2047, 3147775, 7342079, 15730687, 2047, 2047, 100665343, 234883071, 535824383, 1073739775, 2147483647, 4294967295]
theorem gridhalllaw3_LedgerSettles.tab40 : rtab .any (opsOf Try.f8 40) = gridhalllaw3_LedgerSettles.T40 := by kernel_rfl
theorem gridhalllaw3_LedgerSettles.bits40 : waitsOk gridhalllaw3_LedgerSettles.T40.2 gridhalllaw3_LedgerSettles.B40 = true := by kernel_rfl
def gridhalllaw3_LedgerSettles.T42 : Bool × List (List Nat × List Nat) := (true, [([], []), ([], []), ([], []), ([], []), ([], []), ([], []), ([4, 5], [4, 5]), ([6], [6]), ([], []), ([8], [8]), ([7, 9], [7, 9]), ([], []), ([], []), ([11, 12], [11, 12]), ([13], [13]), ([], []), ([15], [15]), ([14, 16], [14, 16]), ([0, 1, 0, 1, 4, 5, 6, 7, 8, 9, 10, 14], [0, 1]), ([18, 10, 0, 1, 4, 5, 6, 7, 8, 9, 10, 14], [10, 18]), ([2, 3, 0, 1, 2, 3, 4, 5, 6, 7, 8, 9, 10, 11, 12, 13, 14, 15, 16, 17, 18, 19], [2, 3]), ([20, 17, 19, 0, 1, 2, 3, 4, 5, 6, 7, 8, 9, 10, 11, 12, 13, 14, 15, 16, 17, 18, 19], [17, 20])])
def gridhalllaw3_LedgerSettles.B42 : List Nat := [0, 0, 0, 0, 0, 0, 48, 112, 0, 256, 1008, 0, 0, 6144, 14336, 0, 32768, 129024, 32755, 294899, 1048575, 2097151]
theorem gridhalllaw3_LedgerSettles.tab42 : rtab .any (opsOf Try.f8 42) = gridhalllaw3_LedgerSettles.T42 := by kernel_rfl
theorem gridhalllaw3_LedgerSettles.bits42 : waitsOk gridhalllaw3_LedgerSettles.T42.2 gridhalllaw3_LedgerSettles.B42 = true := by kernel_rfl

def mask_0 : Array Bool := #[false, false, false, false, false, false, false, false, false, false, false, false, false, false, false, false, false, false, false, false, false, false, false, false, false, false, false, false, false, false, false, false, false]
def mask_1 : Array Bool := #[true, false, false, false, false, false, false, false, false, false, false, false, false, false, false, false, false, false, false, false, false, false, false, false, false, false, false, false, false, false, false, false, false]
def mask_2 : Array Bool := #[true, true, false, false, false, false, false, false, false, false, false, false, false, false, false, false, false, false, false, false, false, false, false, false, false, false, false, false, false, false, false, false, false]
def mask_3 : Array Bool := #[true, true, true, false, false, false, false, false, false, false, false, false, false, false, false, false, false, false, false, false, false, false, false, false, false, false, false, false, false, false, false, false, false]
def mask_4 : Array Bool := #[true, true, true, true, false, false, false, false, false, false, false, false, false, false, false, false, false, false, false, false, false, false, false, false, false, false, false, false, false, false, false, false, false]
def mask_5 : Array Bool := #[true, true, true, true, true, false, false, false, false, false, false, false, false, false, false, false, false, false, false, false, false, false, false, false, false, false, false, false, false, false, false, false, false]
def mask_6 : Array Bool := #[true, true, true, true, true, true, false, false, false, false, false, false, false, false, false, false, false, false, false, false, false, false, false, false, false, false, false, false, false, false, false, false, false]
def mask_7 : Array Bool := #[true, true, true, true, true, true, true, false, false, false, false, false, false, false, false, false, false, false, false, false, false, false, false, false, false, false, false, false, false, false, false, false, false]
def mask_8 : Array Bool := #[true, true, true, true, true, true, true, true, false, false, false, false, false, false, false, false, false, false, false, false, false, false, false, false, false, false, false, false, false, false, false, false, false]
def mask_9 : Array Bool := #[true, true, true, true, true, true, true, true, true, false, false, false, false, false, false, false, false, false, false, false, false, false, false, false, false, false, false, false, false, false, false, false, false]
def mask_10 : Array Bool := #[true, true, true, true, true, true, true, true, true, true, false, false, false, false, false, false, false, false, false, false, false, false, false, false, false, false, false, false, false, false, false, false, false]
def mask_11 : Array Bool := #[true, true, true, true, true, true, true, true, true, true, true, false, false, false, false, false, false, false, false, false, false, false, false, false, false, false, false, false, false, false, false, false, false]
def mask_12 : Array Bool := #[true, true, true, true, true, true, true, true, true, true, true, true, false, false, false, false, false, false, false, false, false, false, false, false, false, false, false, false, false, false, false, false, false]
def mask_13 : Array Bool := #[true, true, true, true, true, true, true, true, true, true, true, true, true, false, false, false, false, false, false, false, false, false, false, false, false, false, false, false, false, false, false, false, false]
def mask_14 : Array Bool := #[true, true, true, true, true, true, true, true, true, true, true, true, true, true, false, false, false, false, false, false, false, false, false, false, false, false, false, false, false, false, false, false, false]
def mask_15 : Array Bool := #[true, true, true, true, true, true, true, true, true, true, true, true, true, true, true, false, false, false, false, false, false, false, false, false, false, false, false, false, false, false, false, false, false]
def mask_16 : Array Bool := #[true, true, true, true, true, true, true, true, true, true, true, true, true, true, true, true, false, false, false, false, false, false, false, false, false, false, false, false, false, false, false, false, false]
def mask_17 : Array Bool := #[true, true, true, true, true, true, true, true, true, true, true, true, true, true, true, true, true, false, false, false, false, false, false, false, false, false, false, false, false, false, false, false, false]
def mask_18 : Array Bool := #[true, true, true, true, true, true, true, true, true, true, true, true, true, true, true, true, true, true, false, false, false, false, false, false, false, false, false, false, false, false, false, false, false]
def mask_19 : Array Bool := #[true, true, true, true, true, true, true, true, true, true, true, true, true, true, true, true, true, true, true, false, false, false, false, false, false, false, false, false, false, false, false, false, false]
def mask_20 : Array Bool := #[true, true, true, true, true, true, true, true, true, true, true, true, true, true, true, true, true, true, true, true, false, false, false, false, false, false, false, false, false, false, false, false, false]
def mask_21 : Array Bool := #[true, true, true, true, true, true, true, true, true, true, true, true, true, true, true, true, true, true, true, true, true, false, false, false, false, false, false, false, false, false, false, false, false]
def mask_22 : Array Bool := #[true, true, true, true, true, true, true, true, true, true, true, true, true, true, true, true, true, true, true, true, true, true, false, false, false, false, false, false, false, false, false, false, false]
def mask_23 : Array Bool := #[true, true, true, true, true, true, true, true, true, true, true, true, true, true, true, true, true, true, true, true, true, true, true, false, false, false, false, false, false, false, false, false, false]
def mask_24 : Array Bool := #[true, true, true, true, true, true, true, true, true, true, true, true, true, true, true, true, true, true, true, true, true, true, true, true, false, false, false, false, false, false, false, false, false]
def mask_25 : Array Bool := #[true, true, true, true, true, true, true, true, true, true, true, true, true, true, true, true, true, true, true, true, true, true, true, true, true, false, false, false, false, false, false, false, false]
def mask_26 : Array Bool := #[true, true, true, true, true, true, true, true, true, true, true, true, true, true, true, true, true, true, true, true, true, true, true, true, true, true, false, false, false, false, false, false, false]
def mask_27 : Array Bool := #[true, true, true, true, true, true, true, true, true, true, true, true, true, true, true, true, true, true, true, true, true, true, true, true, true, true, true, false, false, false, false, false, false]
def mask_28 : Array Bool := #[true, true, true, true, true, true, true, true, true, true, true, true, true, true, true, true, true, true, true, true, true, true, true, true, true, true, true, true, false, false, false, false, false]
def mask_29 : Array Bool := #[true, true, true, true, true, true, true, true, true, true, true, true, true, true, true, true, true, true, true, true, true, true, true, true, true, true, true, true, true, false, false, false, false]
def mask_30 : Array Bool := #[true, true, true, true, true, true, true, true, true, true, true, true, true, true, true, true, true, true, true, true, true, true, true, true, true, true, true, true, true, true, false, false, false]
def mask_31 : Array Bool := #[true, true, true, true, true, true, true, true, true, true, true, true, true, true, true, true, true, true, true, true, true, true, true, true, true, true, true, true, true, true, true, false, false]
def mask_32 : Array Bool := #[true, true, true, true, true, true, true, true, true, true, true, true, true, true, true, true, true, true, true, true, true, true, true, true, true, true, true, true, true, true, true, true, false]
def mask_33 : Array Bool := #[true, true, true, true, true, true, true, true, true, true, true, true, true, true, true, true, true, true, true, true, true, true, true, true, true, true, true, true, true, true, true, true, true]
def mask_34 : Array Bool := #[true, true, true, true, true, true, true, true, true, true, true, false, true, false, false, false, false, false, false, false, false, false, false, false, false, false, false, false, false, false, false, false, false]
def mask_35 : Array Bool := #[true, true, true, true, true, true, true, true, true, true, true, false, true, true, false, false, false, false, false, false, false, false, false, false, false, false, false, false, false, false, false, false, false]
def mask_36 : Array Bool := #[true, true, true, true, true, true, true, true, true, true, true, false, true, true, true, false, false, false, false, false, false, false, false, false, false, false, false, false, false, false, false, false, false]
def mask_37 : Array Bool := #[true, true, true, true, true, true, true, true, true, true, true, false, true, true, true, false, true, false, false, false, false, false, false, false, false, false, false, false, false, false, false, false, false]
def mask_38 : Array Bool := #[true, true, true, true, true, true, true, true, true, true, true, false, true, true, true, false, true, true, false, false, false, false, false, false, false, false, false, false, false, false, false, false, false]
def mask_39 : Array Bool := #[true, true, true, true, true, true, true, true, true, true, true, false, true, true, true, false, true, true, true, false, false, false, false, false, false, false, false, false, false, false, false, false, false]
def mask_40 : Array Bool := #[true, true, true, true, true, true, true, true, true, true, true, false, true, true, true, false, true, true, true, false, true, false, false, false, false, false, false, false, false, false, false, false, false]
def mask_41 : Array Bool := #[true, true, true, true, true, true, true, true, true, true, true, false, true, true, true, false, true, true, true, false, true, true, false, false, false, false, false, false, false, false, false, false, false]
def mask_42 : Array Bool := #[true, true, true, true, true, true, true, true, true, true, true, false, true, true, true, false, true, true, true, false, true, true, true, false, false, false, false, false, false, false, false, false, false]
def mask_43 : Array Bool := #[true, true, true, true, true, true, true, true, true, true, true, false, true, true, true, false, true, true, true, false, true, true, true, false, false, true, false, false, false, false, false, false, false]
def mask_44 : Array Bool := #[true, true, true, true, true, true, true, true, true, true, true, false, true, true, true, false, true, true, true, false, true, true, true, false, false, true, true, false, false, false, false, false, false]
def mask_45 : Array Bool := #[true, true, true, true, true, true, true, true, true, true, true, false, true, true, true, false, true, true, true, false, true, true, true, false, false, true, true, true, false, false, false, false, false]
def mask_46 : Array Bool := #[true, true, true, true, true, true, true, true, true, true, true, true, true, true, true, false, true, true, true, false, true, true, true, false, false, true, true, true, false, false, false, false, false]
def mask_47 : Array Bool := #[true, true, true, true, true, true, true, true, true, true, true, true, true, true, true, true, true, true, true, false, true, true, true, false, false, true, true, true, false, false, false, false, false]
def mask_48 : Array Bool := #[true, true, true, true, true, true, true, true, true, true, true, true, true, true, true, true, true, true, true, true, true, true, true, false, false, true, true, true, false, false, false, false, false]
def mask_49 : Array Bool := #[true, true, true, true, true, true, true, true, true, true, true, true, true, true, true, true, true, true, true, true, true, true, true, true, false, true, true, true, false, false, false, false, false]
def mask_50 : Array Bool := #[true, true, true, true, true, true, true, true, true, true, true, true, true, true, true, true, true, true, false, false, false, false]
def mask_51 : Array Bool := #[true, true, true, true, true, true, true, true, true, true, true, true, true, true, true, true, true, true, true, false, false, false]
def mask_52 : Array Bool := #[true, true, true, true, true, true, true, true, true, true, true, true, true, true, true, true, true, true, true, true, false, false]
def mask_53 : Array Bool := #[true, true, true, true, true, true, true, true, true, true, true, true, true, true, true, true, true, true, true, true, true, false]
def mask_54 : Array Bool := #[true, true, true, true, true, true, true, true, true, true, true, true, true, true, true, true, true, true, true, true, true, true]

end Go.Proofs.Ytpmaiofgnbgboaa.PLedgerSettles
