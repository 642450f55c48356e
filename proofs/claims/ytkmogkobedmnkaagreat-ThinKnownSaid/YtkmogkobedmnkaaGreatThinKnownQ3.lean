/- Parts of the plan for the law ThinKnown: each is one kernel run. -/
import Derived.Test.YtkmogkobedmnkaaGreatThinKnownPlan
namespace Go.Proofs.YtkmogkobedmnkaaGreat.thinKnown
open Go Go.Ev
noncomputable section

def d1 : List (List (SB × Bool) × Leaf) := [
  ([], .cut 2 [] [] [])]
theorem q1 : PartOK Tryz.prog cuts 7 none true g1 t1.cfg := ⟨1000000, d1, by kernel_rfl, by kernel_rfl⟩

def d3 : List (List (SB × Bool) × Leaf) := [
  ([], .cut 4 [] [] [])]
theorem q3 : PartOK Tryz.prog cuts 5 none true g3 t3.cfg := ⟨1000000, d3, by kernel_rfl, by kernel_rfl⟩

def d6 : List (List (SB × Bool) × Leaf) := [
  ([], .cut 7 [] [] [])]
theorem q6 : PartOK Tryz.prog cuts 2 none true g6 t6.cfg := ⟨1000000, d6, by kernel_rfl, by kernel_rfl⟩


end
end Go.Proofs.YtkmogkobedmnkaaGreat.thinKnown
