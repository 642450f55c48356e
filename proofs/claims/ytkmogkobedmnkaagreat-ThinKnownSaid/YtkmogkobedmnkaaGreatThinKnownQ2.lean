/- Parts of the plan for the law ThinKnown: each is one kernel run. -/
import Derived.Test.YtkmogkobedmnkaaGreatThinKnownPlan
namespace Go.Proofs.YtkmogkobedmnkaaGreat.thinKnown
open Go Go.Ev
noncomputable section

def d4 : List (List (SB × Bool) × Leaf) := [
  ([], .cut 5 [] [] [])]
theorem q4 : PartOK Tryz.prog cuts 4 none true g4 t4.cfg := ⟨1000000, d4, by kernel_rfl, by kernel_rfl⟩

def ds : List (List (SB × Bool) × Leaf) := [
  ([], .cut 0 [] [] [])]
theorem qs : PartOK Tryz.prog cuts top none false { rng := rngOf shape, asm := [] } (startCfg Tryz.prog 5 shape) := ⟨1000000, ds, by kernel_rfl, by kernel_rfl⟩

def d0 : List (List (SB × Bool) × Leaf) := [
  ([], .cut 1 [] [] [])]
theorem q0 : PartOK Tryz.prog cuts 8 none true g0 t0.cfg := ⟨1000000, d0, by kernel_rfl, by kernel_rfl⟩


end
end Go.Proofs.YtkmogkobedmnkaaGreat.thinKnown
