/- The law ParseStrength of chapter 11 returns true whatever its arguments, and its card is tied: the kernel runs the 324 texts that differ. No condition. -/
import Derived.Test.YtomglhellgmbkaaGreatDoorRows
import Derived.Test.YtomglhellgmbkaaGreatDoorPr0
import Derived.Test.YtomglhellgmbkaaGreatDoorPr1
import Derived.Test.YtomglhellgmbkaaGreatDoorPr2
import Derived.Test.YtomglhellgmbkaaGreatDoorPr3
import Derived.Test.YtomglhellgmbkaaGreatDoorTie
import Derived.Test.YtomglhellgmbkaaGreatDoorCards
import Derived.LaidMore
import Derived.Lay
import Derived.SevenTiedAt
import Derived.HandedShaped
import Derived.Shelf.Vars
import Derived.WalkKit
import Derived.ProofKit
import Derived.OpenShut
namespace Go.Proofs.YtomglhellgmbkaaGreatDoor.Sx
open Go Go.Proofs.YtomglhellgmbkaaGreatDoor.Ev
theorem nat_ofP {a : Int} (h0 : (0 : Int) ≤ a) : ∃ n : Nat, a = .ofNat n := ⟨a.toNat, by show a = ((a.toNat : Nat) : Int); omega⟩
theorem allP0 (m : Int) (b : Nat) (hb : b < 18) : oP m 0 b = true := by
  have h : b = 0 ∨ b = 1 ∨ b = 2 ∨ b = 3 ∨ b = 4 ∨ b = 5 ∨ b = 6 ∨ b = 7 ∨ b = 8 ∨ b = 9 ∨ b = 10 ∨ b = 11 ∨ b = 12 ∨ b = 13 ∨ b = 14 ∨ b = 15 ∨ b = 16 ∨ b = 17 := by omega
  rcases h with rfl | rfl | rfl | rfl | rfl | rfl | rfl | rfl | rfl | rfl | rfl | rfl | rfl | rfl | rfl | rfl | rfl | rfl
  · exact (and2P_eq _ _ (gP0 m)).1
  · exact (and2P_eq _ _ (and2P_eq _ _ (gP0 m)).2).1
  · exact (and2P_eq _ _ (and2P_eq _ _ (and2P_eq _ _ (gP0 m)).2).2).1
  · exact (and2P_eq _ _ (and2P_eq _ _ (and2P_eq _ _ (and2P_eq _ _ (gP0 m)).2).2).2).1
  · exact (and2P_eq _ _ (and2P_eq _ _ (and2P_eq _ _ (and2P_eq _ _ (and2P_eq _ _ (gP0 m)).2).2).2).2).1
  · exact (and2P_eq _ _ (and2P_eq _ _ (and2P_eq _ _ (and2P_eq _ _ (and2P_eq _ _ (gP0 m)).2).2).2).2).2
  · exact (and2P_eq _ _ (gP1 m)).1
  · exact (and2P_eq _ _ (and2P_eq _ _ (gP1 m)).2).1
  · exact (and2P_eq _ _ (and2P_eq _ _ (and2P_eq _ _ (gP1 m)).2).2).1
  · exact (and2P_eq _ _ (and2P_eq _ _ (and2P_eq _ _ (and2P_eq _ _ (gP1 m)).2).2).2).1
  · exact (and2P_eq _ _ (and2P_eq _ _ (and2P_eq _ _ (and2P_eq _ _ (and2P_eq _ _ (gP1 m)).2).2).2).2).1
  · exact (and2P_eq _ _ (and2P_eq _ _ (and2P_eq _ _ (and2P_eq _ _ (and2P_eq _ _ (gP1 m)).2).2).2).2).2
  · exact (and2P_eq _ _ (gP2 m)).1
  · exact (and2P_eq _ _ (and2P_eq _ _ (gP2 m)).2).1
  · exact (and2P_eq _ _ (and2P_eq _ _ (and2P_eq _ _ (gP2 m)).2).2).1
  · exact (and2P_eq _ _ (and2P_eq _ _ (and2P_eq _ _ (and2P_eq _ _ (gP2 m)).2).2).2).1
  · exact (and2P_eq _ _ (and2P_eq _ _ (and2P_eq _ _ (and2P_eq _ _ (and2P_eq _ _ (gP2 m)).2).2).2).2).1
  · exact (and2P_eq _ _ (and2P_eq _ _ (and2P_eq _ _ (and2P_eq _ _ (and2P_eq _ _ (gP2 m)).2).2).2).2).2
theorem allP1 (m : Int) (b : Nat) (hb : b < 18) : oP m 1 b = true := by
  have h : b = 0 ∨ b = 1 ∨ b = 2 ∨ b = 3 ∨ b = 4 ∨ b = 5 ∨ b = 6 ∨ b = 7 ∨ b = 8 ∨ b = 9 ∨ b = 10 ∨ b = 11 ∨ b = 12 ∨ b = 13 ∨ b = 14 ∨ b = 15 ∨ b = 16 ∨ b = 17 := by omega
  rcases h with rfl | rfl | rfl | rfl | rfl | rfl | rfl | rfl | rfl | rfl | rfl | rfl | rfl | rfl | rfl | rfl | rfl | rfl
  · exact (and2P_eq _ _ (gP3 m)).1
  · exact (and2P_eq _ _ (and2P_eq _ _ (gP3 m)).2).1
  · exact (and2P_eq _ _ (and2P_eq _ _ (and2P_eq _ _ (gP3 m)).2).2).1
  · exact (and2P_eq _ _ (and2P_eq _ _ (and2P_eq _ _ (and2P_eq _ _ (gP3 m)).2).2).2).1
  · exact (and2P_eq _ _ (and2P_eq _ _ (and2P_eq _ _ (and2P_eq _ _ (and2P_eq _ _ (gP3 m)).2).2).2).2).1
  · exact (and2P_eq _ _ (and2P_eq _ _ (and2P_eq _ _ (and2P_eq _ _ (and2P_eq _ _ (gP3 m)).2).2).2).2).2
  · exact (and2P_eq _ _ (gP4 m)).1
  · exact (and2P_eq _ _ (and2P_eq _ _ (gP4 m)).2).1
  · exact (and2P_eq _ _ (and2P_eq _ _ (and2P_eq _ _ (gP4 m)).2).2).1
  · exact (and2P_eq _ _ (and2P_eq _ _ (and2P_eq _ _ (and2P_eq _ _ (gP4 m)).2).2).2).1
  · exact (and2P_eq _ _ (and2P_eq _ _ (and2P_eq _ _ (and2P_eq _ _ (and2P_eq _ _ (gP4 m)).2).2).2).2).1
  · exact (and2P_eq _ _ (and2P_eq _ _ (and2P_eq _ _ (and2P_eq _ _ (and2P_eq _ _ (gP4 m)).2).2).2).2).2
  · exact (and2P_eq _ _ (gP5 m)).1
  · exact (and2P_eq _ _ (and2P_eq _ _ (gP5 m)).2).1
  · exact (and2P_eq _ _ (and2P_eq _ _ (and2P_eq _ _ (gP5 m)).2).2).1
  · exact (and2P_eq _ _ (and2P_eq _ _ (and2P_eq _ _ (and2P_eq _ _ (gP5 m)).2).2).2).1
  · exact (and2P_eq _ _ (and2P_eq _ _ (and2P_eq _ _ (and2P_eq _ _ (and2P_eq _ _ (gP5 m)).2).2).2).2).1
  · exact (and2P_eq _ _ (and2P_eq _ _ (and2P_eq _ _ (and2P_eq _ _ (and2P_eq _ _ (gP5 m)).2).2).2).2).2
theorem allP2 (m : Int) (b : Nat) (hb : b < 18) : oP m 2 b = true := by
  have h : b = 0 ∨ b = 1 ∨ b = 2 ∨ b = 3 ∨ b = 4 ∨ b = 5 ∨ b = 6 ∨ b = 7 ∨ b = 8 ∨ b = 9 ∨ b = 10 ∨ b = 11 ∨ b = 12 ∨ b = 13 ∨ b = 14 ∨ b = 15 ∨ b = 16 ∨ b = 17 := by omega
  rcases h with rfl | rfl | rfl | rfl | rfl | rfl | rfl | rfl | rfl | rfl | rfl | rfl | rfl | rfl | rfl | rfl | rfl | rfl
  · exact (and2P_eq _ _ (gP6 m)).1
  · exact (and2P_eq _ _ (and2P_eq _ _ (gP6 m)).2).1
  · exact (and2P_eq _ _ (and2P_eq _ _ (and2P_eq _ _ (gP6 m)).2).2).1
  · exact (and2P_eq _ _ (and2P_eq _ _ (and2P_eq _ _ (and2P_eq _ _ (gP6 m)).2).2).2).1
  · exact (and2P_eq _ _ (and2P_eq _ _ (and2P_eq _ _ (and2P_eq _ _ (and2P_eq _ _ (gP6 m)).2).2).2).2).1
  · exact (and2P_eq _ _ (and2P_eq _ _ (and2P_eq _ _ (and2P_eq _ _ (and2P_eq _ _ (gP6 m)).2).2).2).2).2
  · exact (and2P_eq _ _ (gP7 m)).1
  · exact (and2P_eq _ _ (and2P_eq _ _ (gP7 m)).2).1
  · exact (and2P_eq _ _ (and2P_eq _ _ (and2P_eq _ _ (gP7 m)).2).2).1
  · exact (and2P_eq _ _ (and2P_eq _ _ (and2P_eq _ _ (and2P_eq _ _ (gP7 m)).2).2).2).1
  · exact (and2P_eq _ _ (and2P_eq _ _ (and2P_eq _ _ (and2P_eq _ _ (and2P_eq _ _ (gP7 m)).2).2).2).2).1
  · exact (and2P_eq _ _ (and2P_eq _ _ (and2P_eq _ _ (and2P_eq _ _ (and2P_eq _ _ (gP7 m)).2).2).2).2).2
  · exact (and2P_eq _ _ (gP8 m)).1
  · exact (and2P_eq _ _ (and2P_eq _ _ (gP8 m)).2).1
  · exact (and2P_eq _ _ (and2P_eq _ _ (and2P_eq _ _ (gP8 m)).2).2).1
  · exact (and2P_eq _ _ (and2P_eq _ _ (and2P_eq _ _ (and2P_eq _ _ (gP8 m)).2).2).2).1
  · exact (and2P_eq _ _ (and2P_eq _ _ (and2P_eq _ _ (and2P_eq _ _ (and2P_eq _ _ (gP8 m)).2).2).2).2).1
  · exact (and2P_eq _ _ (and2P_eq _ _ (and2P_eq _ _ (and2P_eq _ _ (and2P_eq _ _ (gP8 m)).2).2).2).2).2
theorem allP3 (m : Int) (b : Nat) (hb : b < 18) : oP m 3 b = true := by
  have h : b = 0 ∨ b = 1 ∨ b = 2 ∨ b = 3 ∨ b = 4 ∨ b = 5 ∨ b = 6 ∨ b = 7 ∨ b = 8 ∨ b = 9 ∨ b = 10 ∨ b = 11 ∨ b = 12 ∨ b = 13 ∨ b = 14 ∨ b = 15 ∨ b = 16 ∨ b = 17 := by omega
  rcases h with rfl | rfl | rfl | rfl | rfl | rfl | rfl | rfl | rfl | rfl | rfl | rfl | rfl | rfl | rfl | rfl | rfl | rfl
  · exact (and2P_eq _ _ (gP9 m)).1
  · exact (and2P_eq _ _ (and2P_eq _ _ (gP9 m)).2).1
  · exact (and2P_eq _ _ (and2P_eq _ _ (and2P_eq _ _ (gP9 m)).2).2).1
  · exact (and2P_eq _ _ (and2P_eq _ _ (and2P_eq _ _ (and2P_eq _ _ (gP9 m)).2).2).2).1
  · exact (and2P_eq _ _ (and2P_eq _ _ (and2P_eq _ _ (and2P_eq _ _ (and2P_eq _ _ (gP9 m)).2).2).2).2).1
  · exact (and2P_eq _ _ (and2P_eq _ _ (and2P_eq _ _ (and2P_eq _ _ (and2P_eq _ _ (gP9 m)).2).2).2).2).2
  · exact (and2P_eq _ _ (gP10 m)).1
  · exact (and2P_eq _ _ (and2P_eq _ _ (gP10 m)).2).1
  · exact (and2P_eq _ _ (and2P_eq _ _ (and2P_eq _ _ (gP10 m)).2).2).1
  · exact (and2P_eq _ _ (and2P_eq _ _ (and2P_eq _ _ (and2P_eq _ _ (gP10 m)).2).2).2).1
  · exact (and2P_eq _ _ (and2P_eq _ _ (and2P_eq _ _ (and2P_eq _ _ (and2P_eq _ _ (gP10 m)).2).2).2).2).1
  · exact (and2P_eq _ _ (and2P_eq _ _ (and2P_eq _ _ (and2P_eq _ _ (and2P_eq _ _ (gP10 m)).2).2).2).2).2
  · exact (and2P_eq _ _ (gP11 m)).1
  · exact (and2P_eq _ _ (and2P_eq _ _ (gP11 m)).2).1
  · exact (and2P_eq _ _ (and2P_eq _ _ (and2P_eq _ _ (gP11 m)).2).2).1
  · exact (and2P_eq _ _ (and2P_eq _ _ (and2P_eq _ _ (and2P_eq _ _ (gP11 m)).2).2).2).1
  · exact (and2P_eq _ _ (and2P_eq _ _ (and2P_eq _ _ (and2P_eq _ _ (and2P_eq _ _ (gP11 m)).2).2).2).2).1
  · exact (and2P_eq _ _ (and2P_eq _ _ (and2P_eq _ _ (and2P_eq _ _ (and2P_eq _ _ (gP11 m)).2).2).2).2).2
theorem allP4 (m : Int) (b : Nat) (hb : b < 18) : oP m 4 b = true := by
  have h : b = 0 ∨ b = 1 ∨ b = 2 ∨ b = 3 ∨ b = 4 ∨ b = 5 ∨ b = 6 ∨ b = 7 ∨ b = 8 ∨ b = 9 ∨ b = 10 ∨ b = 11 ∨ b = 12 ∨ b = 13 ∨ b = 14 ∨ b = 15 ∨ b = 16 ∨ b = 17 := by omega
  rcases h with rfl | rfl | rfl | rfl | rfl | rfl | rfl | rfl | rfl | rfl | rfl | rfl | rfl | rfl | rfl | rfl | rfl | rfl
  · exact (and2P_eq _ _ (gP12 m)).1
  · exact (and2P_eq _ _ (and2P_eq _ _ (gP12 m)).2).1
  · exact (and2P_eq _ _ (and2P_eq _ _ (and2P_eq _ _ (gP12 m)).2).2).1
  · exact (and2P_eq _ _ (and2P_eq _ _ (and2P_eq _ _ (and2P_eq _ _ (gP12 m)).2).2).2).1
  · exact (and2P_eq _ _ (and2P_eq _ _ (and2P_eq _ _ (and2P_eq _ _ (and2P_eq _ _ (gP12 m)).2).2).2).2).1
  · exact (and2P_eq _ _ (and2P_eq _ _ (and2P_eq _ _ (and2P_eq _ _ (and2P_eq _ _ (gP12 m)).2).2).2).2).2
  · exact (and2P_eq _ _ (gP13 m)).1
  · exact (and2P_eq _ _ (and2P_eq _ _ (gP13 m)).2).1
  · exact (and2P_eq _ _ (and2P_eq _ _ (and2P_eq _ _ (gP13 m)).2).2).1
  · exact (and2P_eq _ _ (and2P_eq _ _ (and2P_eq _ _ (and2P_eq _ _ (gP13 m)).2).2).2).1
  · exact (and2P_eq _ _ (and2P_eq _ _ (and2P_eq _ _ (and2P_eq _ _ (and2P_eq _ _ (gP13 m)).2).2).2).2).1
  · exact (and2P_eq _ _ (and2P_eq _ _ (and2P_eq _ _ (and2P_eq _ _ (and2P_eq _ _ (gP13 m)).2).2).2).2).2
  · exact (and2P_eq _ _ (gP14 m)).1
  · exact (and2P_eq _ _ (and2P_eq _ _ (gP14 m)).2).1
  · exact (and2P_eq _ _ (and2P_eq _ _ (and2P_eq _ _ (gP14 m)).2).2).1
  · exact (and2P_eq _ _ (and2P_eq _ _ (and2P_eq _ _ (and2P_eq _ _ (gP14 m)).2).2).2).1
  · exact (and2P_eq _ _ (and2P_eq _ _ (and2P_eq _ _ (and2P_eq _ _ (and2P_eq _ _ (gP14 m)).2).2).2).2).1
  · exact (and2P_eq _ _ (and2P_eq _ _ (and2P_eq _ _ (and2P_eq _ _ (and2P_eq _ _ (gP14 m)).2).2).2).2).2
theorem allP5 (m : Int) (b : Nat) (hb : b < 18) : oP m 5 b = true := by
  have h : b = 0 ∨ b = 1 ∨ b = 2 ∨ b = 3 ∨ b = 4 ∨ b = 5 ∨ b = 6 ∨ b = 7 ∨ b = 8 ∨ b = 9 ∨ b = 10 ∨ b = 11 ∨ b = 12 ∨ b = 13 ∨ b = 14 ∨ b = 15 ∨ b = 16 ∨ b = 17 := by omega
  rcases h with rfl | rfl | rfl | rfl | rfl | rfl | rfl | rfl | rfl | rfl | rfl | rfl | rfl | rfl | rfl | rfl | rfl | rfl
  · exact (and2P_eq _ _ (gP15 m)).1
  · exact (and2P_eq _ _ (and2P_eq _ _ (gP15 m)).2).1
  · exact (and2P_eq _ _ (and2P_eq _ _ (and2P_eq _ _ (gP15 m)).2).2).1
  · exact (and2P_eq _ _ (and2P_eq _ _ (and2P_eq _ _ (and2P_eq _ _ (gP15 m)).2).2).2).1
  · exact (and2P_eq _ _ (and2P_eq _ _ (and2P_eq _ _ (and2P_eq _ _ (and2P_eq _ _ (gP15 m)).2).2).2).2).1
  · exact (and2P_eq _ _ (and2P_eq _ _ (and2P_eq _ _ (and2P_eq _ _ (and2P_eq _ _ (gP15 m)).2).2).2).2).2
  · exact (and2P_eq _ _ (gP16 m)).1
  · exact (and2P_eq _ _ (and2P_eq _ _ (gP16 m)).2).1
  · exact (and2P_eq _ _ (and2P_eq _ _ (and2P_eq _ _ (gP16 m)).2).2).1
  · exact (and2P_eq _ _ (and2P_eq _ _ (and2P_eq _ _ (and2P_eq _ _ (gP16 m)).2).2).2).1
  · exact (and2P_eq _ _ (and2P_eq _ _ (and2P_eq _ _ (and2P_eq _ _ (and2P_eq _ _ (gP16 m)).2).2).2).2).1
  · exact (and2P_eq _ _ (and2P_eq _ _ (and2P_eq _ _ (and2P_eq _ _ (and2P_eq _ _ (gP16 m)).2).2).2).2).2
  · exact (and2P_eq _ _ (gP17 m)).1
  · exact (and2P_eq _ _ (and2P_eq _ _ (gP17 m)).2).1
  · exact (and2P_eq _ _ (and2P_eq _ _ (and2P_eq _ _ (gP17 m)).2).2).1
  · exact (and2P_eq _ _ (and2P_eq _ _ (and2P_eq _ _ (and2P_eq _ _ (gP17 m)).2).2).2).1
  · exact (and2P_eq _ _ (and2P_eq _ _ (and2P_eq _ _ (and2P_eq _ _ (and2P_eq _ _ (gP17 m)).2).2).2).2).1
  · exact (and2P_eq _ _ (and2P_eq _ _ (and2P_eq _ _ (and2P_eq _ _ (and2P_eq _ _ (gP17 m)).2).2).2).2).2
theorem allP6 (m : Int) (b : Nat) (hb : b < 18) : oP m 6 b = true := by
  have h : b = 0 ∨ b = 1 ∨ b = 2 ∨ b = 3 ∨ b = 4 ∨ b = 5 ∨ b = 6 ∨ b = 7 ∨ b = 8 ∨ b = 9 ∨ b = 10 ∨ b = 11 ∨ b = 12 ∨ b = 13 ∨ b = 14 ∨ b = 15 ∨ b = 16 ∨ b = 17 := by omega
  rcases h with rfl | rfl | rfl | rfl | rfl | rfl | rfl | rfl | rfl | rfl | rfl | rfl | rfl | rfl | rfl | rfl | rfl | rfl
  · exact (and2P_eq _ _ (gP18 m)).1
  · exact (and2P_eq _ _ (and2P_eq _ _ (gP18 m)).2).1
  · exact (and2P_eq _ _ (and2P_eq _ _ (and2P_eq _ _ (gP18 m)).2).2).1
  · exact (and2P_eq _ _ (and2P_eq _ _ (and2P_eq _ _ (and2P_eq _ _ (gP18 m)).2).2).2).1
  · exact (and2P_eq _ _ (and2P_eq _ _ (and2P_eq _ _ (and2P_eq _ _ (and2P_eq _ _ (gP18 m)).2).2).2).2).1
  · exact (and2P_eq _ _ (and2P_eq _ _ (and2P_eq _ _ (and2P_eq _ _ (and2P_eq _ _ (gP18 m)).2).2).2).2).2
  · exact (and2P_eq _ _ (gP19 m)).1
  · exact (and2P_eq _ _ (and2P_eq _ _ (gP19 m)).2).1
  · exact (and2P_eq _ _ (and2P_eq _ _ (and2P_eq _ _ (gP19 m)).2).2).1
  · exact (and2P_eq _ _ (and2P_eq _ _ (and2P_eq _ _ (and2P_eq _ _ (gP19 m)).2).2).2).1
  · exact (and2P_eq _ _ (and2P_eq _ _ (and2P_eq _ _ (and2P_eq _ _ (and2P_eq _ _ (gP19 m)).2).2).2).2).1
  · exact (and2P_eq _ _ (and2P_eq _ _ (and2P_eq _ _ (and2P_eq _ _ (and2P_eq _ _ (gP19 m)).2).2).2).2).2
  · exact (and2P_eq _ _ (gP20 m)).1
  · exact (and2P_eq _ _ (and2P_eq _ _ (gP20 m)).2).1
  · exact (and2P_eq _ _ (and2P_eq _ _ (and2P_eq _ _ (gP20 m)).2).2).1
  · exact (and2P_eq _ _ (and2P_eq _ _ (and2P_eq _ _ (and2P_eq _ _ (gP20 m)).2).2).2).1
  · exact (and2P_eq _ _ (and2P_eq _ _ (and2P_eq _ _ (and2P_eq _ _ (and2P_eq _ _ (gP20 m)).2).2).2).2).1
  · exact (and2P_eq _ _ (and2P_eq _ _ (and2P_eq _ _ (and2P_eq _ _ (and2P_eq _ _ (gP20 m)).2).2).2).2).2
theorem allP7 (m : Int) (b : Nat) (hb : b < 18) : oP m 7 b = true := by
  have h : b = 0 ∨ b = 1 ∨ b = 2 ∨ b = 3 ∨ b = 4 ∨ b = 5 ∨ b = 6 ∨ b = 7 ∨ b = 8 ∨ b = 9 ∨ b = 10 ∨ b = 11 ∨ b = 12 ∨ b = 13 ∨ b = 14 ∨ b = 15 ∨ b = 16 ∨ b = 17 := by omega
  rcases h with rfl | rfl | rfl | rfl | rfl | rfl | rfl | rfl | rfl | rfl | rfl | rfl | rfl | rfl | rfl | rfl | rfl | rfl
  · exact (and2P_eq _ _ (gP21 m)).1
  · exact (and2P_eq _ _ (and2P_eq _ _ (gP21 m)).2).1
  · exact (and2P_eq _ _ (and2P_eq _ _ (and2P_eq _ _ (gP21 m)).2).2).1
  · exact (and2P_eq _ _ (and2P_eq _ _ (and2P_eq _ _ (and2P_eq _ _ (gP21 m)).2).2).2).1
  · exact (and2P_eq _ _ (and2P_eq _ _ (and2P_eq _ _ (and2P_eq _ _ (and2P_eq _ _ (gP21 m)).2).2).2).2).1
  · exact (and2P_eq _ _ (and2P_eq _ _ (and2P_eq _ _ (and2P_eq _ _ (and2P_eq _ _ (gP21 m)).2).2).2).2).2
  · exact (and2P_eq _ _ (gP22 m)).1
  · exact (and2P_eq _ _ (and2P_eq _ _ (gP22 m)).2).1
  · exact (and2P_eq _ _ (and2P_eq _ _ (and2P_eq _ _ (gP22 m)).2).2).1
  · exact (and2P_eq _ _ (and2P_eq _ _ (and2P_eq _ _ (and2P_eq _ _ (gP22 m)).2).2).2).1
  · exact (and2P_eq _ _ (and2P_eq _ _ (and2P_eq _ _ (and2P_eq _ _ (and2P_eq _ _ (gP22 m)).2).2).2).2).1
  · exact (and2P_eq _ _ (and2P_eq _ _ (and2P_eq _ _ (and2P_eq _ _ (and2P_eq _ _ (gP22 m)).2).2).2).2).2
  · exact (and2P_eq _ _ (gP23 m)).1
  · exact (and2P_eq _ _ (and2P_eq _ _ (gP23 m)).2).1
  · exact (and2P_eq _ _ (and2P_eq _ _ (and2P_eq _ _ (gP23 m)).2).2).1
  · exact (and2P_eq _ _ (and2P_eq _ _ (and2P_eq _ _ (and2P_eq _ _ (gP23 m)).2).2).2).1
  · exact (and2P_eq _ _ (and2P_eq _ _ (and2P_eq _ _ (and2P_eq _ _ (and2P_eq _ _ (gP23 m)).2).2).2).2).1
  · exact (and2P_eq _ _ (and2P_eq _ _ (and2P_eq _ _ (and2P_eq _ _ (and2P_eq _ _ (gP23 m)).2).2).2).2).2
theorem allP8 (m : Int) (b : Nat) (hb : b < 18) : oP m 8 b = true := by
  have h : b = 0 ∨ b = 1 ∨ b = 2 ∨ b = 3 ∨ b = 4 ∨ b = 5 ∨ b = 6 ∨ b = 7 ∨ b = 8 ∨ b = 9 ∨ b = 10 ∨ b = 11 ∨ b = 12 ∨ b = 13 ∨ b = 14 ∨ b = 15 ∨ b = 16 ∨ b = 17 := by omega
  rcases h with rfl | rfl | rfl | rfl | rfl | rfl | rfl | rfl | rfl | rfl | rfl | rfl | rfl | rfl | rfl | rfl | rfl | rfl
  · exact (and2P_eq _ _ (gP24 m)).1
  · exact (and2P_eq _ _ (and2P_eq _ _ (gP24 m)).2).1
  · exact (and2P_eq _ _ (and2P_eq _ _ (and2P_eq _ _ (gP24 m)).2).2).1
  · exact (and2P_eq _ _ (and2P_eq _ _ (and2P_eq _ _ (and2P_eq _ _ (gP24 m)).2).2).2).1
  · exact (and2P_eq _ _ (and2P_eq _ _ (and2P_eq _ _ (and2P_eq _ _ (and2P_eq _ _ (gP24 m)).2).2).2).2).1
  · exact (and2P_eq _ _ (and2P_eq _ _ (and2P_eq _ _ (and2P_eq _ _ (and2P_eq _ _ (gP24 m)).2).2).2).2).2
  · exact (and2P_eq _ _ (gP25 m)).1
  · exact (and2P_eq _ _ (and2P_eq _ _ (gP25 m)).2).1
  · exact (and2P_eq _ _ (and2P_eq _ _ (and2P_eq _ _ (gP25 m)).2).2).1
  · exact (and2P_eq _ _ (and2P_eq _ _ (and2P_eq _ _ (and2P_eq _ _ (gP25 m)).2).2).2).1
  · exact (and2P_eq _ _ (and2P_eq _ _ (and2P_eq _ _ (and2P_eq _ _ (and2P_eq _ _ (gP25 m)).2).2).2).2).1
  · exact (and2P_eq _ _ (and2P_eq _ _ (and2P_eq _ _ (and2P_eq _ _ (and2P_eq _ _ (gP25 m)).2).2).2).2).2
  · exact (and2P_eq _ _ (gP26 m)).1
  · exact (and2P_eq _ _ (and2P_eq _ _ (gP26 m)).2).1
  · exact (and2P_eq _ _ (and2P_eq _ _ (and2P_eq _ _ (gP26 m)).2).2).1
  · exact (and2P_eq _ _ (and2P_eq _ _ (and2P_eq _ _ (and2P_eq _ _ (gP26 m)).2).2).2).1
  · exact (and2P_eq _ _ (and2P_eq _ _ (and2P_eq _ _ (and2P_eq _ _ (and2P_eq _ _ (gP26 m)).2).2).2).2).1
  · exact (and2P_eq _ _ (and2P_eq _ _ (and2P_eq _ _ (and2P_eq _ _ (and2P_eq _ _ (gP26 m)).2).2).2).2).2
theorem allP9 (m : Int) (b : Nat) (hb : b < 18) : oP m 9 b = true := by
  have h : b = 0 ∨ b = 1 ∨ b = 2 ∨ b = 3 ∨ b = 4 ∨ b = 5 ∨ b = 6 ∨ b = 7 ∨ b = 8 ∨ b = 9 ∨ b = 10 ∨ b = 11 ∨ b = 12 ∨ b = 13 ∨ b = 14 ∨ b = 15 ∨ b = 16 ∨ b = 17 := by omega
  rcases h with rfl | rfl | rfl | rfl | rfl | rfl | rfl | rfl | rfl | rfl | rfl | rfl | rfl | rfl | rfl | rfl | rfl | rfl
  · exact (and2P_eq _ _ (gP27 m)).1
  · exact (and2P_eq _ _ (and2P_eq _ _ (gP27 m)).2).1
  · exact (and2P_eq _ _ (and2P_eq _ _ (and2P_eq _ _ (gP27 m)).2).2).1
  · exact (and2P_eq _ _ (and2P_eq _ _ (and2P_eq _ _ (and2P_eq _ _ (gP27 m)).2).2).2).1
  · exact (and2P_eq _ _ (and2P_eq _ _ (and2P_eq _ _ (and2P_eq _ _ (and2P_eq _ _ (gP27 m)).2).2).2).2).1
  · exact (and2P_eq _ _ (and2P_eq _ _ (and2P_eq _ _ (and2P_eq _ _ (and2P_eq _ _ (gP27 m)).2).2).2).2).2
  · exact (and2P_eq _ _ (gP28 m)).1
  · exact (and2P_eq _ _ (and2P_eq _ _ (gP28 m)).2).1
  · exact (and2P_eq _ _ (and2P_eq _ _ (and2P_eq _ _ (gP28 m)).2).2).1
  · exact (and2P_eq _ _ (and2P_eq _ _ (and2P_eq _ _ (and2P_eq _ _ (gP28 m)).2).2).2).1
  · exact (and2P_eq _ _ (and2P_eq _ _ (and2P_eq _ _ (and2P_eq _ _ (and2P_eq _ _ (gP28 m)).2).2).2).2).1
  · exact (and2P_eq _ _ (and2P_eq _ _ (and2P_eq _ _ (and2P_eq _ _ (and2P_eq _ _ (gP28 m)).2).2).2).2).2
  · exact (and2P_eq _ _ (gP29 m)).1
  · exact (and2P_eq _ _ (and2P_eq _ _ (gP29 m)).2).1
  · exact (and2P_eq _ _ (and2P_eq _ _ (and2P_eq _ _ (gP29 m)).2).2).1
  · exact (and2P_eq _ _ (and2P_eq _ _ (and2P_eq _ _ (and2P_eq _ _ (gP29 m)).2).2).2).1
  · exact (and2P_eq _ _ (and2P_eq _ _ (and2P_eq _ _ (and2P_eq _ _ (and2P_eq _ _ (gP29 m)).2).2).2).2).1
  · exact (and2P_eq _ _ (and2P_eq _ _ (and2P_eq _ _ (and2P_eq _ _ (and2P_eq _ _ (gP29 m)).2).2).2).2).2
theorem allP10 (m : Int) (b : Nat) (hb : b < 18) : oP m 10 b = true := by
  have h : b = 0 ∨ b = 1 ∨ b = 2 ∨ b = 3 ∨ b = 4 ∨ b = 5 ∨ b = 6 ∨ b = 7 ∨ b = 8 ∨ b = 9 ∨ b = 10 ∨ b = 11 ∨ b = 12 ∨ b = 13 ∨ b = 14 ∨ b = 15 ∨ b = 16 ∨ b = 17 := by omega
  rcases h with rfl | rfl | rfl | rfl | rfl | rfl | rfl | rfl | rfl | rfl | rfl | rfl | rfl | rfl | rfl | rfl | rfl | rfl
  · exact (and2P_eq _ _ (gP30 m)).1
  · exact (and2P_eq _ _ (and2P_eq _ _ (gP30 m)).2).1
  · exact (and2P_eq _ _ (and2P_eq _ _ (and2P_eq _ _ (gP30 m)).2).2).1
  · exact (and2P_eq _ _ (and2P_eq _ _ (and2P_eq _ _ (and2P_eq _ _ (gP30 m)).2).2).2).1
  · exact (and2P_eq _ _ (and2P_eq _ _ (and2P_eq _ _ (and2P_eq _ _ (and2P_eq _ _ (gP30 m)).2).2).2).2).1
  · exact (and2P_eq _ _ (and2P_eq _ _ (and2P_eq _ _ (and2P_eq _ _ (and2P_eq _ _ (gP30 m)).2).2).2).2).2
  · exact (and2P_eq _ _ (gP31 m)).1
  · exact (and2P_eq _ _ (and2P_eq _ _ (gP31 m)).2).1
  · exact (and2P_eq _ _ (and2P_eq _ _ (and2P_eq _ _ (gP31 m)).2).2).1
  · exact (and2P_eq _ _ (and2P_eq _ _ (and2P_eq _ _ (and2P_eq _ _ (gP31 m)).2).2).2).1
  · exact (and2P_eq _ _ (and2P_eq _ _ (and2P_eq _ _ (and2P_eq _ _ (and2P_eq _ _ (gP31 m)).2).2).2).2).1
  · exact (and2P_eq _ _ (and2P_eq _ _ (and2P_eq _ _ (and2P_eq _ _ (and2P_eq _ _ (gP31 m)).2).2).2).2).2
  · exact (and2P_eq _ _ (gP32 m)).1
  · exact (and2P_eq _ _ (and2P_eq _ _ (gP32 m)).2).1
  · exact (and2P_eq _ _ (and2P_eq _ _ (and2P_eq _ _ (gP32 m)).2).2).1
  · exact (and2P_eq _ _ (and2P_eq _ _ (and2P_eq _ _ (and2P_eq _ _ (gP32 m)).2).2).2).1
  · exact (and2P_eq _ _ (and2P_eq _ _ (and2P_eq _ _ (and2P_eq _ _ (and2P_eq _ _ (gP32 m)).2).2).2).2).1
  · exact (and2P_eq _ _ (and2P_eq _ _ (and2P_eq _ _ (and2P_eq _ _ (and2P_eq _ _ (gP32 m)).2).2).2).2).2
theorem allP11 (m : Int) (b : Nat) (hb : b < 18) : oP m 11 b = true := by
  have h : b = 0 ∨ b = 1 ∨ b = 2 ∨ b = 3 ∨ b = 4 ∨ b = 5 ∨ b = 6 ∨ b = 7 ∨ b = 8 ∨ b = 9 ∨ b = 10 ∨ b = 11 ∨ b = 12 ∨ b = 13 ∨ b = 14 ∨ b = 15 ∨ b = 16 ∨ b = 17 := by omega
  rcases h with rfl | rfl | rfl | rfl | rfl | rfl | rfl | rfl | rfl | rfl | rfl | rfl | rfl | rfl | rfl | rfl | rfl | rfl
  · exact (and2P_eq _ _ (gP33 m)).1
  · exact (and2P_eq _ _ (and2P_eq _ _ (gP33 m)).2).1
  · exact (and2P_eq _ _ (and2P_eq _ _ (and2P_eq _ _ (gP33 m)).2).2).1
  · exact (and2P_eq _ _ (and2P_eq _ _ (and2P_eq _ _ (and2P_eq _ _ (gP33 m)).2).2).2).1
  · exact (and2P_eq _ _ (and2P_eq _ _ (and2P_eq _ _ (and2P_eq _ _ (and2P_eq _ _ (gP33 m)).2).2).2).2).1
  · exact (and2P_eq _ _ (and2P_eq _ _ (and2P_eq _ _ (and2P_eq _ _ (and2P_eq _ _ (gP33 m)).2).2).2).2).2
  · exact (and2P_eq _ _ (gP34 m)).1
  · exact (and2P_eq _ _ (and2P_eq _ _ (gP34 m)).2).1
  · exact (and2P_eq _ _ (and2P_eq _ _ (and2P_eq _ _ (gP34 m)).2).2).1
  · exact (and2P_eq _ _ (and2P_eq _ _ (and2P_eq _ _ (and2P_eq _ _ (gP34 m)).2).2).2).1
  · exact (and2P_eq _ _ (and2P_eq _ _ (and2P_eq _ _ (and2P_eq _ _ (and2P_eq _ _ (gP34 m)).2).2).2).2).1
  · exact (and2P_eq _ _ (and2P_eq _ _ (and2P_eq _ _ (and2P_eq _ _ (and2P_eq _ _ (gP34 m)).2).2).2).2).2
  · exact (and2P_eq _ _ (gP35 m)).1
  · exact (and2P_eq _ _ (and2P_eq _ _ (gP35 m)).2).1
  · exact (and2P_eq _ _ (and2P_eq _ _ (and2P_eq _ _ (gP35 m)).2).2).1
  · exact (and2P_eq _ _ (and2P_eq _ _ (and2P_eq _ _ (and2P_eq _ _ (gP35 m)).2).2).2).1
  · exact (and2P_eq _ _ (and2P_eq _ _ (and2P_eq _ _ (and2P_eq _ _ (and2P_eq _ _ (gP35 m)).2).2).2).2).1
  · exact (and2P_eq _ _ (and2P_eq _ _ (and2P_eq _ _ (and2P_eq _ _ (and2P_eq _ _ (gP35 m)).2).2).2).2).2
theorem allP12 (m : Int) (b : Nat) (hb : b < 18) : oP m 12 b = true := by
  have h : b = 0 ∨ b = 1 ∨ b = 2 ∨ b = 3 ∨ b = 4 ∨ b = 5 ∨ b = 6 ∨ b = 7 ∨ b = 8 ∨ b = 9 ∨ b = 10 ∨ b = 11 ∨ b = 12 ∨ b = 13 ∨ b = 14 ∨ b = 15 ∨ b = 16 ∨ b = 17 := by omega
  rcases h with rfl | rfl | rfl | rfl | rfl | rfl | rfl | rfl | rfl | rfl | rfl | rfl | rfl | rfl | rfl | rfl | rfl | rfl
  · exact (and2P_eq _ _ (gP36 m)).1
  · exact (and2P_eq _ _ (and2P_eq _ _ (gP36 m)).2).1
  · exact (and2P_eq _ _ (and2P_eq _ _ (and2P_eq _ _ (gP36 m)).2).2).1
  · exact (and2P_eq _ _ (and2P_eq _ _ (and2P_eq _ _ (and2P_eq _ _ (gP36 m)).2).2).2).1
  · exact (and2P_eq _ _ (and2P_eq _ _ (and2P_eq _ _ (and2P_eq _ _ (and2P_eq _ _ (gP36 m)).2).2).2).2).1
  · exact (and2P_eq _ _ (and2P_eq _ _ (and2P_eq _ _ (and2P_eq _ _ (and2P_eq _ _ (gP36 m)).2).2).2).2).2
  · exact (and2P_eq _ _ (gP37 m)).1
  · exact (and2P_eq _ _ (and2P_eq _ _ (gP37 m)).2).1
  · exact (and2P_eq _ _ (and2P_eq _ _ (and2P_eq _ _ (gP37 m)).2).2).1
  · exact (and2P_eq _ _ (and2P_eq _ _ (and2P_eq _ _ (and2P_eq _ _ (gP37 m)).2).2).2).1
  · exact (and2P_eq _ _ (and2P_eq _ _ (and2P_eq _ _ (and2P_eq _ _ (and2P_eq _ _ (gP37 m)).2).2).2).2).1
  · exact (and2P_eq _ _ (and2P_eq _ _ (and2P_eq _ _ (and2P_eq _ _ (and2P_eq _ _ (gP37 m)).2).2).2).2).2
  · exact (and2P_eq _ _ (gP38 m)).1
  · exact (and2P_eq _ _ (and2P_eq _ _ (gP38 m)).2).1
  · exact (and2P_eq _ _ (and2P_eq _ _ (and2P_eq _ _ (gP38 m)).2).2).1
  · exact (and2P_eq _ _ (and2P_eq _ _ (and2P_eq _ _ (and2P_eq _ _ (gP38 m)).2).2).2).1
  · exact (and2P_eq _ _ (and2P_eq _ _ (and2P_eq _ _ (and2P_eq _ _ (and2P_eq _ _ (gP38 m)).2).2).2).2).1
  · exact (and2P_eq _ _ (and2P_eq _ _ (and2P_eq _ _ (and2P_eq _ _ (and2P_eq _ _ (gP38 m)).2).2).2).2).2
theorem allP13 (m : Int) (b : Nat) (hb : b < 18) : oP m 13 b = true := by
  have h : b = 0 ∨ b = 1 ∨ b = 2 ∨ b = 3 ∨ b = 4 ∨ b = 5 ∨ b = 6 ∨ b = 7 ∨ b = 8 ∨ b = 9 ∨ b = 10 ∨ b = 11 ∨ b = 12 ∨ b = 13 ∨ b = 14 ∨ b = 15 ∨ b = 16 ∨ b = 17 := by omega
  rcases h with rfl | rfl | rfl | rfl | rfl | rfl | rfl | rfl | rfl | rfl | rfl | rfl | rfl | rfl | rfl | rfl | rfl | rfl
  · exact (and2P_eq _ _ (gP39 m)).1
  · exact (and2P_eq _ _ (and2P_eq _ _ (gP39 m)).2).1
  · exact (and2P_eq _ _ (and2P_eq _ _ (and2P_eq _ _ (gP39 m)).2).2).1
  · exact (and2P_eq _ _ (and2P_eq _ _ (and2P_eq _ _ (and2P_eq _ _ (gP39 m)).2).2).2).1
  · exact (and2P_eq _ _ (and2P_eq _ _ (and2P_eq _ _ (and2P_eq _ _ (and2P_eq _ _ (gP39 m)).2).2).2).2).1
  · exact (and2P_eq _ _ (and2P_eq _ _ (and2P_eq _ _ (and2P_eq _ _ (and2P_eq _ _ (gP39 m)).2).2).2).2).2
  · exact (and2P_eq _ _ (gP40 m)).1
  · exact (and2P_eq _ _ (and2P_eq _ _ (gP40 m)).2).1
  · exact (and2P_eq _ _ (and2P_eq _ _ (and2P_eq _ _ (gP40 m)).2).2).1
  · exact (and2P_eq _ _ (and2P_eq _ _ (and2P_eq _ _ (and2P_eq _ _ (gP40 m)).2).2).2).1
  · exact (and2P_eq _ _ (and2P_eq _ _ (and2P_eq _ _ (and2P_eq _ _ (and2P_eq _ _ (gP40 m)).2).2).2).2).1
  · exact (and2P_eq _ _ (and2P_eq _ _ (and2P_eq _ _ (and2P_eq _ _ (and2P_eq _ _ (gP40 m)).2).2).2).2).2
  · exact (and2P_eq _ _ (gP41 m)).1
  · exact (and2P_eq _ _ (and2P_eq _ _ (gP41 m)).2).1
  · exact (and2P_eq _ _ (and2P_eq _ _ (and2P_eq _ _ (gP41 m)).2).2).1
  · exact (and2P_eq _ _ (and2P_eq _ _ (and2P_eq _ _ (and2P_eq _ _ (gP41 m)).2).2).2).1
  · exact (and2P_eq _ _ (and2P_eq _ _ (and2P_eq _ _ (and2P_eq _ _ (and2P_eq _ _ (gP41 m)).2).2).2).2).1
  · exact (and2P_eq _ _ (and2P_eq _ _ (and2P_eq _ _ (and2P_eq _ _ (and2P_eq _ _ (gP41 m)).2).2).2).2).2
theorem allP14 (m : Int) (b : Nat) (hb : b < 18) : oP m 14 b = true := by
  have h : b = 0 ∨ b = 1 ∨ b = 2 ∨ b = 3 ∨ b = 4 ∨ b = 5 ∨ b = 6 ∨ b = 7 ∨ b = 8 ∨ b = 9 ∨ b = 10 ∨ b = 11 ∨ b = 12 ∨ b = 13 ∨ b = 14 ∨ b = 15 ∨ b = 16 ∨ b = 17 := by omega
  rcases h with rfl | rfl | rfl | rfl | rfl | rfl | rfl | rfl | rfl | rfl | rfl | rfl | rfl | rfl | rfl | rfl | rfl | rfl
  · exact (and2P_eq _ _ (gP42 m)).1
  · exact (and2P_eq _ _ (and2P_eq _ _ (gP42 m)).2).1
  · exact (and2P_eq _ _ (and2P_eq _ _ (and2P_eq _ _ (gP42 m)).2).2).1
  · exact (and2P_eq _ _ (and2P_eq _ _ (and2P_eq _ _ (and2P_eq _ _ (gP42 m)).2).2).2).1
  · exact (and2P_eq _ _ (and2P_eq _ _ (and2P_eq _ _ (and2P_eq _ _ (and2P_eq _ _ (gP42 m)).2).2).2).2).1
  · exact (and2P_eq _ _ (and2P_eq _ _ (and2P_eq _ _ (and2P_eq _ _ (and2P_eq _ _ (gP42 m)).2).2).2).2).2
  · exact (and2P_eq _ _ (gP43 m)).1
  · exact (and2P_eq _ _ (and2P_eq _ _ (gP43 m)).2).1
  · exact (and2P_eq _ _ (and2P_eq _ _ (and2P_eq _ _ (gP43 m)).2).2).1
  · exact (and2P_eq _ _ (and2P_eq _ _ (and2P_eq _ _ (and2P_eq _ _ (gP43 m)).2).2).2).1
  · exact (and2P_eq _ _ (and2P_eq _ _ (and2P_eq _ _ (and2P_eq _ _ (and2P_eq _ _ (gP43 m)).2).2).2).2).1
  · exact (and2P_eq _ _ (and2P_eq _ _ (and2P_eq _ _ (and2P_eq _ _ (and2P_eq _ _ (gP43 m)).2).2).2).2).2
  · exact (and2P_eq _ _ (gP44 m)).1
  · exact (and2P_eq _ _ (and2P_eq _ _ (gP44 m)).2).1
  · exact (and2P_eq _ _ (and2P_eq _ _ (and2P_eq _ _ (gP44 m)).2).2).1
  · exact (and2P_eq _ _ (and2P_eq _ _ (and2P_eq _ _ (and2P_eq _ _ (gP44 m)).2).2).2).1
  · exact (and2P_eq _ _ (and2P_eq _ _ (and2P_eq _ _ (and2P_eq _ _ (and2P_eq _ _ (gP44 m)).2).2).2).2).1
  · exact (and2P_eq _ _ (and2P_eq _ _ (and2P_eq _ _ (and2P_eq _ _ (and2P_eq _ _ (gP44 m)).2).2).2).2).2
theorem allP15 (m : Int) (b : Nat) (hb : b < 18) : oP m 15 b = true := by
  have h : b = 0 ∨ b = 1 ∨ b = 2 ∨ b = 3 ∨ b = 4 ∨ b = 5 ∨ b = 6 ∨ b = 7 ∨ b = 8 ∨ b = 9 ∨ b = 10 ∨ b = 11 ∨ b = 12 ∨ b = 13 ∨ b = 14 ∨ b = 15 ∨ b = 16 ∨ b = 17 := by omega
  rcases h with rfl | rfl | rfl | rfl | rfl | rfl | rfl | rfl | rfl | rfl | rfl | rfl | rfl | rfl | rfl | rfl | rfl | rfl
  · exact (and2P_eq _ _ (gP45 m)).1
  · exact (and2P_eq _ _ (and2P_eq _ _ (gP45 m)).2).1
  · exact (and2P_eq _ _ (and2P_eq _ _ (and2P_eq _ _ (gP45 m)).2).2).1
  · exact (and2P_eq _ _ (and2P_eq _ _ (and2P_eq _ _ (and2P_eq _ _ (gP45 m)).2).2).2).1
  · exact (and2P_eq _ _ (and2P_eq _ _ (and2P_eq _ _ (and2P_eq _ _ (and2P_eq _ _ (gP45 m)).2).2).2).2).1
  · exact (and2P_eq _ _ (and2P_eq _ _ (and2P_eq _ _ (and2P_eq _ _ (and2P_eq _ _ (gP45 m)).2).2).2).2).2
  · exact (and2P_eq _ _ (gP46 m)).1
  · exact (and2P_eq _ _ (and2P_eq _ _ (gP46 m)).2).1
  · exact (and2P_eq _ _ (and2P_eq _ _ (and2P_eq _ _ (gP46 m)).2).2).1
  · exact (and2P_eq _ _ (and2P_eq _ _ (and2P_eq _ _ (and2P_eq _ _ (gP46 m)).2).2).2).1
  · exact (and2P_eq _ _ (and2P_eq _ _ (and2P_eq _ _ (and2P_eq _ _ (and2P_eq _ _ (gP46 m)).2).2).2).2).1
  · exact (and2P_eq _ _ (and2P_eq _ _ (and2P_eq _ _ (and2P_eq _ _ (and2P_eq _ _ (gP46 m)).2).2).2).2).2
  · exact (and2P_eq _ _ (gP47 m)).1
  · exact (and2P_eq _ _ (and2P_eq _ _ (gP47 m)).2).1
  · exact (and2P_eq _ _ (and2P_eq _ _ (and2P_eq _ _ (gP47 m)).2).2).1
  · exact (and2P_eq _ _ (and2P_eq _ _ (and2P_eq _ _ (and2P_eq _ _ (gP47 m)).2).2).2).1
  · exact (and2P_eq _ _ (and2P_eq _ _ (and2P_eq _ _ (and2P_eq _ _ (and2P_eq _ _ (gP47 m)).2).2).2).2).1
  · exact (and2P_eq _ _ (and2P_eq _ _ (and2P_eq _ _ (and2P_eq _ _ (and2P_eq _ _ (gP47 m)).2).2).2).2).2
theorem allP16 (m : Int) (b : Nat) (hb : b < 18) : oP m 16 b = true := by
  have h : b = 0 ∨ b = 1 ∨ b = 2 ∨ b = 3 ∨ b = 4 ∨ b = 5 ∨ b = 6 ∨ b = 7 ∨ b = 8 ∨ b = 9 ∨ b = 10 ∨ b = 11 ∨ b = 12 ∨ b = 13 ∨ b = 14 ∨ b = 15 ∨ b = 16 ∨ b = 17 := by omega
  rcases h with rfl | rfl | rfl | rfl | rfl | rfl | rfl | rfl | rfl | rfl | rfl | rfl | rfl | rfl | rfl | rfl | rfl | rfl
  · exact (and2P_eq _ _ (gP48 m)).1
  · exact (and2P_eq _ _ (and2P_eq _ _ (gP48 m)).2).1
  · exact (and2P_eq _ _ (and2P_eq _ _ (and2P_eq _ _ (gP48 m)).2).2).1
  · exact (and2P_eq _ _ (and2P_eq _ _ (and2P_eq _ _ (and2P_eq _ _ (gP48 m)).2).2).2).1
  · exact (and2P_eq _ _ (and2P_eq _ _ (and2P_eq _ _ (and2P_eq _ _ (and2P_eq _ _ (gP48 m)).2).2).2).2).1
  · exact (and2P_eq _ _ (and2P_eq _ _ (and2P_eq _ _ (and2P_eq _ _ (and2P_eq _ _ (gP48 m)).2).2).2).2).2
  · exact (and2P_eq _ _ (gP49 m)).1
  · exact (and2P_eq _ _ (and2P_eq _ _ (gP49 m)).2).1
  · exact (and2P_eq _ _ (and2P_eq _ _ (and2P_eq _ _ (gP49 m)).2).2).1
  · exact (and2P_eq _ _ (and2P_eq _ _ (and2P_eq _ _ (and2P_eq _ _ (gP49 m)).2).2).2).1
  · exact (and2P_eq _ _ (and2P_eq _ _ (and2P_eq _ _ (and2P_eq _ _ (and2P_eq _ _ (gP49 m)).2).2).2).2).1
  · exact (and2P_eq _ _ (and2P_eq _ _ (and2P_eq _ _ (and2P_eq _ _ (and2P_eq _ _ (gP49 m)).2).2).2).2).2
  · exact (and2P_eq _ _ (gP50 m)).1
  · exact (and2P_eq _ _ (and2P_eq _ _ (gP50 m)).2).1
  · exact (and2P_eq _ _ (and2P_eq _ _ (and2P_eq _ _ (gP50 m)).2).2).1
  · exact (and2P_eq _ _ (and2P_eq _ _ (and2P_eq _ _ (and2P_eq _ _ (gP50 m)).2).2).2).1
  · exact (and2P_eq _ _ (and2P_eq _ _ (and2P_eq _ _ (and2P_eq _ _ (and2P_eq _ _ (gP50 m)).2).2).2).2).1
  · exact (and2P_eq _ _ (and2P_eq _ _ (and2P_eq _ _ (and2P_eq _ _ (and2P_eq _ _ (gP50 m)).2).2).2).2).2
theorem allP17 (m : Int) (b : Nat) (hb : b < 18) : oP m 17 b = true := by
  have h : b = 0 ∨ b = 1 ∨ b = 2 ∨ b = 3 ∨ b = 4 ∨ b = 5 ∨ b = 6 ∨ b = 7 ∨ b = 8 ∨ b = 9 ∨ b = 10 ∨ b = 11 ∨ b = 12 ∨ b = 13 ∨ b = 14 ∨ b = 15 ∨ b = 16 ∨ b = 17 := by omega
  rcases h with rfl | rfl | rfl | rfl | rfl | rfl | rfl | rfl | rfl | rfl | rfl | rfl | rfl | rfl | rfl | rfl | rfl | rfl
  · exact (and2P_eq _ _ (gP51 m)).1
  · exact (and2P_eq _ _ (and2P_eq _ _ (gP51 m)).2).1
  · exact (and2P_eq _ _ (and2P_eq _ _ (and2P_eq _ _ (gP51 m)).2).2).1
  · exact (and2P_eq _ _ (and2P_eq _ _ (and2P_eq _ _ (and2P_eq _ _ (gP51 m)).2).2).2).1
  · exact (and2P_eq _ _ (and2P_eq _ _ (and2P_eq _ _ (and2P_eq _ _ (and2P_eq _ _ (gP51 m)).2).2).2).2).1
  · exact (and2P_eq _ _ (and2P_eq _ _ (and2P_eq _ _ (and2P_eq _ _ (and2P_eq _ _ (gP51 m)).2).2).2).2).2
  · exact (and2P_eq _ _ (gP52 m)).1
  · exact (and2P_eq _ _ (and2P_eq _ _ (gP52 m)).2).1
  · exact (and2P_eq _ _ (and2P_eq _ _ (and2P_eq _ _ (gP52 m)).2).2).1
  · exact (and2P_eq _ _ (and2P_eq _ _ (and2P_eq _ _ (and2P_eq _ _ (gP52 m)).2).2).2).1
  · exact (and2P_eq _ _ (and2P_eq _ _ (and2P_eq _ _ (and2P_eq _ _ (and2P_eq _ _ (gP52 m)).2).2).2).2).1
  · exact (and2P_eq _ _ (and2P_eq _ _ (and2P_eq _ _ (and2P_eq _ _ (and2P_eq _ _ (gP52 m)).2).2).2).2).2
  · exact (and2P_eq _ _ (gP53 m)).1
  · exact (and2P_eq _ _ (and2P_eq _ _ (gP53 m)).2).1
  · exact (and2P_eq _ _ (and2P_eq _ _ (and2P_eq _ _ (gP53 m)).2).2).1
  · exact (and2P_eq _ _ (and2P_eq _ _ (and2P_eq _ _ (and2P_eq _ _ (gP53 m)).2).2).2).1
  · exact (and2P_eq _ _ (and2P_eq _ _ (and2P_eq _ _ (and2P_eq _ _ (and2P_eq _ _ (gP53 m)).2).2).2).2).1
  · exact (and2P_eq _ _ (and2P_eq _ _ (and2P_eq _ _ (and2P_eq _ _ (and2P_eq _ _ (gP53 m)).2).2).2).2).2
theorem allP (m : Int) (a b : Nat) (ha : a < 18) (hb : b < 18) : oP m a b = true := by
  have h : a = 0 ∨ a = 1 ∨ a = 2 ∨ a = 3 ∨ a = 4 ∨ a = 5 ∨ a = 6 ∨ a = 7 ∨ a = 8 ∨ a = 9 ∨ a = 10 ∨ a = 11 ∨ a = 12 ∨ a = 13 ∨ a = 14 ∨ a = 15 ∨ a = 16 ∨ a = 17 := by omega
  rcases h with rfl | rfl | rfl | rfl | rfl | rfl | rfl | rfl | rfl | rfl | rfl | rfl | rfl | rfl | rfl | rfl | rfl | rfl
  · exact allP0 m b hb
  · exact allP1 m b hb
  · exact allP2 m b hb
  · exact allP3 m b hb
  · exact allP4 m b hb
  · exact allP5 m b hb
  · exact allP6 m b hb
  · exact allP7 m b hb
  · exact allP8 m b hb
  · exact allP9 m b hb
  · exact allP10 m b hb
  · exact allP11 m b hb
  · exact allP12 m b hb
  · exact allP13 m b hb
  · exact allP14 m b hb
  · exact allP15 m b hb
  · exact allP16 m b hb
  · exact allP17 m b hb
theorem runP (m : Int) (x y : Nat) : isTrue (SF tabA 1000 5 [.int .u8 (.ofNat x), .int .u8 (.ofNat y)] (h0G m) .no) = true := by
  rw [enterP, ← modP]
  exact allP m (x % 18) (y % 18) (Nat.mod_lt _ (by omega)) (Nat.mod_lt _ (by omega))
end Go.Proofs.YtomglhellgmbkaaGreatDoor.Sx
namespace Go.Proofs.YtomglhellgmbkaaGreatDoor.parseStrength
open Go.ChangeShapes Go.WideShapes Go.ChangeAt Go.RowKit
set_option linter.unusedVariables false      -- a walk need not use every 'w<i>' (that an integer argument fits its kind)

theorem handed_shaped {H : Type} {enc : TypeId × Value → H} {a : Assume} {C : Checked} {os : Os} {f : FuncId} {fn : Func} {s : ChangeSpec} {conds : List PathCond} {apart fresh handsOn again : Bool} {X : World → Array Value → Prop}
    (hX : ∀ (w w' : World) (args : Array Value), w.heap = w'.heap → X w args → X w' args)
    (own : ownKnob C.prog.godebug = none) (started : os.Started) (noInit : C.prog.inits.idxOf? f = none) (hfn : C.prog.funcs[f]? = some fn)
    (witness : ∃ (w : World) (tape : Tape) (i : Input), w.os = os ∧ (w.forCall tape i).Shaped C.prog ∧ i.vars = [] ∧ Input.okWide C.prog (w.forCall tape i) .any w.heap.size f i ∧
      ((s.pre enc C.prog fn conds apart (w.forCall tape i).memory i.args ∧ X (w.forCall tape i).memory i.args) ∧ sizedMet enc C.prog fn (OpenSpec.ofChange s) apart (w.forCall tape i).memory i.args) ∧ a.holds C.prog (lone (Frame.enter C.prog f i.args .normal) [] (w.forCall tape i)))
    (contract : ∀ (W : World) (base : Nat) (args : Array Value) (ds gs : List (DataW H)) (before : List MemPlace),
      (∀ (j : Nat) t v, fn.params[j]? = some t → args[j]? = some v → Value.okWide C.prog W .any base t v) →
      DataW.Whole enc C.prog fn.params.toList s.vars apart W args.toList ds gs before → W.ShapedOpen C.prog → X W args →
      Calls C.prog f args W fun e W' => ∃ v, e = .returned v ∧ s.post enc C.prog fn apart fresh handsOn again W args v W') :
    ReturnsInHanded a C os f .any (fun w args => (s.pre enc C.prog fn conds apart w args ∧ X w args) ∧ sizedMet enc C.prog fn (OpenSpec.ofChange s) apart w args) (s.post enc C.prog fn apart fresh handsOn again) := by
  refine returnsInHanded_of_calls own started noInit witness ?_
  intro w tape i _ hsh _ hok hpre hholds
  obtain ⟨_, _, _, fn', hfn', _, _, _, _, hval⟩ := hok
  have e : fn' = fn := Option.some.inj (hfn'.symm.trans hfn)
  subst e
  obtain ⟨⟨⟨ds, gs, before, hw, hc⟩, hx⟩, hz⟩ := hpre
  have hw' := DataW.Whole.of_heap (w' := w.forCall tape i) (by rfl) hw
  refine (contract (w.forCall tape i) w.heap.size i.args ds gs before hval hw' hsh (hX _ _ _ (by rfl) hx)).mono fun e W' ⟨v, he, hp⟩ => ?_
  subst he
  exact ChangeSpec.post_blind hp
theorem own : ownKnob Tryz.prog.godebug = none := by kernel_rfl

/-! ### STEP 1: THE WALK: the Go text returns true. 'Ev.GrownO w w'': the world has at most new blocks (Derived/RowKit3.lean). Part the cases AHEAD of 'go_enter' where a test parts the walk; take each callee by a contract of your own. -/
theorem walk (a0 : Int) (a1 : Int) (w0 : (Lit.int .u8 a0).wf = true) (w1 : (Lit.int .u8 a1).wf = true) (w : World) (hm : ∃ m, w.cell? ⟨0, 0, none⟩ = some (.int .i64 m)) :
    Calls Tryz.prog 5 #[.int .u8 a0, .int .u8 a1] w fun e w' => e = .returned (.bool true) ∧ Ev.GrownO w w' := by
  have h0 : (0 : Int) ≤ a0 := by
    simp [Lit.wf, IntKind.min, IntKind.max, IntKind.signed, IntKind.bits] at w0
    omega
  have h1 : (0 : Int) ≤ a1 := by
    simp [Lit.wf, IntKind.min, IntKind.max, IntKind.signed, IntKind.bits] at w1
    omega
  obtain ⟨x, rfl⟩ := Sx.nat_ofP h0
  obtain ⟨y, rfl⟩ := Sx.nat_ofP h1
  obtain ⟨m, hm⟩ := hm
  letI := Ev.rhoG m rfl
  exact Ev.walk_S (vs := [.int .u8 (.ofNat x), .int .u8 (.ofNat y)]) (by kernel_rfl) (Sx.okA m) (Sx.runP m x y) (.cons _ _ _ _ (.int _ _ (Ev.InR.no (by decide))) (.cons _ _ _ _ (.int _ _ (Ev.InR.no (by decide))) .nil)) (Ev.gb_of hm)

/-! ### THE ROW's STEP: WRITTEN OUT: LEAVE IT -/
set_option maxRecDepth 100000 in
theorem lifted (os : Os) (started : os.Started) (H : Type) (enc : TypeId × Value → H) :
    ReturnsInHanded {} Tryz.checked os 5 .any (fun w args => (Rows.parseStrengthSpec.pre enc Tryz.prog Tryz.f5 Rows.parseStrengthRow.domain false w args ∧ laidMetH Tryz.prog Rows.parseStrengthRow.laid w) ∧ sizedMet enc Tryz.prog Tryz.f5 (OpenSpec.ofChange Rows.parseStrengthSpec) false w args)
      (Rows.parseStrengthSpec.post enc Tryz.prog Tryz.f5 false true false false) := by
  refine handed_shaped (C := Tryz.checked) (X := fun w _ => laidMetH Tryz.prog Rows.parseStrengthRow.laid w) (fun _ _ _ hh h => h.of_heap hh) own started (by kernel_rfl) Tryz.func5
    (ChangeSpec.witness_shaped (enc := enc) (C := Tryz.checked) (os := os) (X := fun w _ => laidMetH Tryz.prog Rows.parseStrengthRow.laid w) false (World.laidAll Tryz.prog os Rows.parseStrengthRow.laid) #[.int .u8 0, .int .u8 0] 8 (World.laidAll_os _ _ _)
      (World.shaped_of_ZipB (by kernel_rfl) (by kernel_rfl)) (by kernel_rfl) (by kernel_rfl) (by kernel_rfl)
      (by rw [MakeChecks.laidMetH_plain _ _ _ (by kernel_rfl)]; exact laidMet_laidAll _ (by kernel_rfl) (by kernel_rfl))) ?_
  intro W base args ds gs before hval0 hW hsh _
  have hm : ∃ m, W.cell? ⟨0, 0, none⟩ = some (.int .i64 m) := cell_of_shapedOpen_int (t := 3) (zero := #[.int .i64 0]) hsh (by decide +kernel) (by kernel_rfl) rfl (by kernel_rfl) (by kernel_rfl) Tryz.underlying3
  have hval : ∀ (j : Nat) t v, Tryz.f5.params[j]? = some t → args[j]? = some v → Value.okWide Tryz.prog W .any base t v := hval0
  have hW' := hW
  obtain ⟨p, q, hA0, hV, rfl, hfz, hnd⟩ := hW
  have hA : DataW.TrodAll enc Tryz.prog W 0 (fun _ => true) true Tryz.f5.params.toList args.toList ds p := hA0
  rw [Tryz.params5] at hA hval
  obtain ⟨v0, vs0, d0, ds0, p0, q0, hargs, rfl, rfl, h0, r0⟩ := trodAll_cons hA
  obtain ⟨v1, vs1, d1, ds1, p1, q1, rfl, rfl, rfl, h1, r1⟩ := trodAll_cons r0
  obtain ⟨rfl, rfl, rfl⟩ := trodAll_nil r1
  obtain rfl : args = #[v0, v1] := by cases args; simp_all
  obtain ⟨rfl, rfl⟩ := trodVars_none hV
  obtain ⟨a0, rfl, rfl, rfl, w0⟩ := open_int Tryz.underlying5 (hval 0 5 v0 rfl rfl) h0
  obtain ⟨a1, rfl, rfl, rfl, w1⟩ := open_int Tryz.underlying5 (hval 1 5 v1 rfl rfl) h1
  clear hA0 hval0
  simp only [List.append_nil] at hW'
  refine (walk a0 a1 w0 w1 W hm).mono fun e W' ⟨he, hg⟩ => ?_
  subst he
  letI := Ev.rhoG 0 rfl
  exact ⟨_, rfl, Ev.post_of_old (pa := []) (pv := []) hW' (fun _ _ _ => (trodAll_cons_mk (shut_bool Tryz.underlying4 _) trodAll_mk0)) (fun sp _ => (trodAll_cons_mk (shut_int Tryz.underlying5 w0) (trodAll_cons_mk (shut_int Tryz.underlying5 w1) trodAll_mk0))) (fun _ _ => rfl) rfl
    hg (ok_one (by kernel_rfl) rfl (okWide_bool_mk Tryz.underlying4 _))⟩

theorem over : Rows.parseStrengthRow.holds Tryz.pinned (OpenSpec.ofChange Rows.parseStrengthSpec) :=
  OpenClaim.holds_of_wide 5 Tryz.f5 rfl rfl rfl rfl rfl rfl rfl ⟨rfl, rfl, rfl, rfl, rfl⟩ rfl rfl rfl rfl rfl (by kernel_rfl) Tryz.func5 (by kernel_rfl)
    (of_decide_eq_true (by kernel_rfl)) (by unfold Func.isWrapper; first | (rw [if_pos (by decide +kernel)]; kernel_rfl) | (rw [if_neg (by decide +kernel)]; exact ⟨rfl, rfl⟩))
    (fun os started H enc _ => lifted os started H enc)

/-- The tied card. -/
theorem proved : Rows.ParseStrengthCardSaid :=
  Claim7.holds_tied_plain_at .later [] [.data, .data, .widerDeep, .widerDeep, .data, .data, .data, .data, .data, .data, .sentinel, .sentinel, .pinned, .pinned, .pinned] true (true, "6bf5fd88224ff7ca0a0d943de97c4e99d9405ce3b24fe914cdcd250bc6cef7a1") true over (fun _ h => by cases h) (by kernel_rfl) (fun _ h => by cases h) parseStrength_row_tie rfl ⟨rfl, rfl⟩ (by kernel_rfl) rfl
    (fun f fn hf hfn => by
      obtain rfl : f = 5 := Option.some.inj ((show Tryz.prog.funcNamed "solder/solderlaw11.ParseStrength" = some 5 by kernel_rfl).symm.trans hf) |>.symm
      obtain rfl : fn = Tryz.f5 := (Option.some.inj (Tryz.func5.symm.trans hfn)).symm
      exact ⟨by kernel_rfl, fun j t ht => by
        rw [Tryz.params5] at ht
        have hm : t ∈ [5] := by
          have := Array.mem_of_getElem? ht
          simpa using this
        have hall : ([5].all fun u => !Tryz.prog.wantsStandIn u) = true := by kernel_rfl
        exact (show Tryz.prog.wantsStandIn t = false by simpa using List.all_eq_true.1 hall t hm)⟩)
    (by kernel_rfl)
#print axioms proved
end Go.Proofs.YtomglhellgmbkaaGreatDoor.parseStrength
