/- Parts of the plan for the law ThinKnown: each is one kernel run. -/
import Derived.Test.YtkmogkobedmnkaaGreatThinKnownPlan
namespace Go.Proofs.YtkmogkobedmnkaaGreat.thinKnown
open Go Go.Ev
noncomputable section

def d5 : List (List (SB × Bool) × Leaf) := [
  ([], .cut 6 [] [] [])]
theorem q5 : PartOK Tryz.prog cuts 3 none true g5 t5.cfg := ⟨1000000, d5, by kernel_rfl, by kernel_rfl⟩

def d2 : List (List (SB × Bool) × Leaf) := [
  ([], .cut 3 [] [] [])]
theorem q2 : PartOK Tryz.prog cuts 6 none true g2 t2.cfg := ⟨1000000, d2, by kernel_rfl, by kernel_rfl⟩

def d7 : List (List (SB × Bool) × Leaf) := [
  ([], .fin (.lit true))]
theorem q7 : PartOK Tryz.prog cuts 1 none true g7 t7.cfg := ⟨1000000, d7, by kernel_rfl, by kernel_rfl⟩


end
end Go.Proofs.YtkmogkobedmnkaaGreat.thinKnown
