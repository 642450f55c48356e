/- Parts of the plan for the law SafeMutual: each is one kernel run. -/
import Derived.Test.YtmmehhibkpfghaaGreatSafeMutualPlan
set_option linter.unusedVariables false
namespace Go.Proofs.YtmmehhibkpfghaaGreat.safeMutual
open Go Go.Ev
noncomputable section

def d6bbbaaa : List (List (SB × Bool) × Leaf) := [
  ([h119,h20,h15,h18,h19,h4,h3,h2,h0,h7,h22,h23],.cut 8 i6_8 [] [r0,r2,(.upd r1 v7 v36),r3]),
  ([h120,h26,h20,h15,h18,h19,h4,h3,h2,h0,h7,h22,h23],.cut 8 i6_8 [] [r0,r2,(.upd r1 v7 v36),r3]),
  ([h145,h31,h26,h20,h15,h18,h19,h4,h3,h2,h0,h7,h22,h23],.cut 8 i6_8 [] [r0,r2,(.upd r1 v7 v36),r3]),
  ([h146,h40,h31,h26,h20,h15,h18,h19,h4,h3,h2,h0,h7,h22,h23],.cut 8 i6_8 [] [r0,r2,(.upd r1 v7 v36),r3]),
  ([h147,h46,h40,h31,h26,h20,h15,h18,h19,h4,h3,h2,h0,h7,h22,h23],.cut 8 i6_8 [] [r0,r2,(.upd r1 v7 v36),r3]),
  ([h148,h63,h46,h40,h31,h26,h20,h15,h18,h19,h4,h3,h2,h0,h7,h22,h23],.cut 8 i6_8 [] [r0,r2,(.upd r1 v7 v36),r3]),
  ([h110,h93,h63,h46,h40,h31,h26,h20,h15,h18,h19,h4,h3,h2,h0,h7,h22,h23],.cut 8 i6_8 [] [r0,r2,(.upd r1 v7 v36),r3]),
  ([h107,h93,h63,h46,h40,h31,h26,h20,h15,h18,h19,h4,h3,h2,h0,h7,h22,h23],.cut 8 (mkD i6_8 0 [(17,n5)]) [] [r0,r2,(.upd r1 v7 v36),r3]),
  ([h111,h15,h18,h19,h4,h3,h2,h0,h7,h22,h23],.cut 8 (mkD i6_8 0 [(17,n0)]) [] [r0,r2,(.upd r1 v7 v36),r3])]
theorem q6bbbaaa : QQ 6 m6 true x6bbbaaa z6bbbaaa := Cl.partK 1000000 d6bbbaaa [lO [sA,sP] cB,
 lO [sA,sP] cB,
 lO [sA,sP] cB,
 lO [sA,sP] cB,
 lO [sA,sP] cB,
 lO [sA,sP] cB,
 lO [sA,sP] cB,
 lT [sA,sP,sU [2,10,258,266,514,522],sU [7]] ((0,(cQ 10 (cM [522,3]) (cM [522,0])))::(1,(cV [7,7,7,7,7,7]))::(2,(cV [16]))::(3,(cU [24] (cM [144,78])))::(4,(cV [32,48,64,72,80,88,7,7,7,7,7]))::(cI 5 5 7 ((12,(cV [32]))::(cI 13 13 19 ((32,(cV [168,176]))::(cI 33 33 3 ((36,(cQ 10 (cM [522,1731]) (cM [522,1728])))::(37,(cV [7,7,7,7]))::(39,(cV [7,7,7,7]))::(cI 58 58 3 (cI 64 65 3 ((72,(cQ 10 (cM [522,4035]) (cM [522,4032])))::(73,(cV [7,7,7,7,7,7]))::(74,(cV [688]))::(75,(cU [696] (cM [4176,78])))::(76,(cV [704,712,720,728,744,752,7,7,7,7,7]))::(cI 77 89 7 ((84,(cV [704]))::(cI 85 97 9 ((96,(cV [872]))::(99,(cV [888]))::(102,(cV [912]))::(105,(cV [936]))::(cI 106 119 2 []))))))))))))))) [] .non,
 lO [sA,sP,sU [2,10,258,266,514,522],sU [7],sU [7],sU [7],sU [7]] cB] (by kernel_rfl) (by kernel_rfl) (by kernel_rfl)
def d12bbbaaa : List (List (SB × Bool) × Leaf) := [
  ([h119,h20,h15,h18,h19,h4,h3,h2,h0,h7,h34],.cut 13 i12_13 [] [r0,r2,(.upd r1 v7 v25)]),
  ([h120,h26,h20,h15,h18,h19,h4,h3,h2,h0,h7,h34],.cut 13 i12_13 [] [r0,r2,(.upd r1 v7 v25)]),
  ([h145,h31,h26,h20,h15,h18,h19,h4,h3,h2,h0,h7,h34],.cut 13 i12_13 [] [r0,r2,(.upd r1 v7 v25)]),
  ([h146,h40,h31,h26,h20,h15,h18,h19,h4,h3,h2,h0,h7,h34],.cut 13 i12_13 [] [r0,r2,(.upd r1 v7 v25)]),
  ([h147,h46,h40,h31,h26,h20,h15,h18,h19,h4,h3,h2,h0,h7,h34],.cut 13 i12_13 [] [r0,r2,(.upd r1 v7 v25)]),
  ([h148,h63,h46,h40,h31,h26,h20,h15,h18,h19,h4,h3,h2,h0,h7,h34],.cut 13 i12_13 [] [r0,r2,(.upd r1 v7 v25)]),
  ([h110,h93,h63,h46,h40,h31,h26,h20,h15,h18,h19,h4,h3,h2,h0,h7,h34],.cut 13 i12_13 [] [r0,r2,(.upd r1 v7 v25)]),
  ([h107,h93,h63,h46,h40,h31,h26,h20,h15,h18,h19,h4,h3,h2,h0,h7,h34],.cut 13 (mkD i12_13 0 [(15,n5)]) [] [r0,r2,(.upd r1 v7 v25)]),
  ([h111,h15,h18,h19,h4,h3,h2,h0,h7,h34],.cut 13 (mkD i12_13 0 [(15,n0)]) [] [r0,r2,(.upd r1 v7 v25)])]
theorem q12bbbaaa : QQ 12 m12 true x12bbbaaa z12bbbaaa := Cl.partK 1000000 d12bbbaaa [lO [sA,sP] cB,
 lO [sA,sP] cB,
 lO [sA,sP] cB,
 lO [sA,sP] cB,
 lO [sA,sP] cB,
 lO [sA,sP] cB,
 lO [sA,sP] cB,
 lT [sA,sP,sU [2,10,258,266,514,522],sU [7]] ((0,(cQ 10 (cM [522,3]) (cM [522,0])))::(1,(cV [7,7,7,7,7,7]))::(2,(cV [16]))::(3,(cU [24] (cM [144,78])))::(4,(cV [32,40,48,56,72,80,7,7,7,7,7]))::(cI 5 5 7 ((12,(cV [32]))::(cI 13 13 9 ((24,(cV [200]))::(27,(cV [216]))::(30,(cV [240]))::(33,(cV [264]))::(cI 34 35 2 ((36,(cQ 10 (cM [522,1779]) (cM [522,1776])))::(37,(cV [7,7,7,7]))::(39,(cV [7,7,7,7]))::(cI 58 59 3 (cI 64 66 3 []))))))))) [] .non,
 lO [sA,sP,sU [2,10,258,266,514,522],sU [7],sU [7],sU [7],sU [7]] cB] (by kernel_rfl) (by kernel_rfl) (by kernel_rfl)
def d20bbbaaa : List (List (SB × Bool) × Leaf) := [
  ([h121,h21,h24,h25,h19,h4,h3,h2,h0,h1,h5,h6],.cut 18 i20_18 [] [r1,r2,(.upd r0 v4 v30)]),
  ([h122,h27,h21,h24,h25,h19,h4,h3,h2,h0,h1,h5,h6],.cut 18 i20_18 [] [r1,r2,(.upd r0 v4 v30)]),
  ([h152,h33,h27,h21,h24,h25,h19,h4,h3,h2,h0,h1,h5,h6],.cut 18 i20_18 [] [r1,r2,(.upd r0 v4 v30)]),
  ([h153,h41,h33,h27,h21,h24,h25,h19,h4,h3,h2,h0,h1,h5,h6],.cut 18 i20_18 [] [r1,r2,(.upd r0 v4 v30)]),
  ([h154,h47,h41,h33,h27,h21,h24,h25,h19,h4,h3,h2,h0,h1,h5,h6],.cut 18 i20_18 [] [r1,r2,(.upd r0 v4 v30)]),
  ([h155,h64,h47,h41,h33,h27,h21,h24,h25,h19,h4,h3,h2,h0,h1,h5,h6],.cut 18 i20_18 [] [r1,r2,(.upd r0 v4 v30)]),
  ([h133,h94,h64,h47,h41,h33,h27,h21,h24,h25,h19,h4,h3,h2,h0,h1,h5,h6],.cut 18 i20_18 [] [r1,r2,(.upd r0 v4 v30)]),
  ([h126,h94,h64,h47,h41,h33,h27,h21,h24,h25,h19,h4,h3,h2,h0,h1,h5,h6],.cut 18 (mkD i20_18 0 [(17,n5)]) [] [r1,r2,(.upd r0 v4 v30)]),
  ([h112,h24,h25,h19,h4,h3,h2,h0,h1,h5,h6],.cut 18 (mkD i20_18 0 [(17,n0)]) [] [r1,r2,(.upd r0 v4 v30)])]
theorem q20bbbaaa : QQ 20 m20 true x20bbbaaa z20bbbaaa := Cl.partK 1000000 d20bbbaaa [lO [sA,sP] cB,
 lO [sA,sP] cB,
 lO [sA,sP] cB,
 lO [sA,sP] cB,
 lO [sA,sP] cB,
 lO [sA,sP] cB,
 lO [sA,sP] cB,
 lT [sA,sP,sU [2,10,258,266,514,522,1026,1034,1050],sU [7],sU [7]] ((0,(cQ 10 (cM [522,3]) (cM [522,0])))::(1,(cV [7,7,7,7,7,7]))::(2,(cV [16]))::(3,(cU [24] (cM [144,78])))::(4,(cV [32,40,48,56,72,80,7,7,7,7,7]))::(cI 5 5 7 ((12,(cV [32]))::(cI 13 13 9 ((24,(cV [200]))::(27,(cV [216]))::(30,(cV [240]))::(33,(cV [264]))::(cI 34 35 2 ((36,(cQ 10 (cM [522,1779]) (cM [522,1776])))::(37,(cV [7,7,7,7,7,7]))::(38,(cV [312]))::(39,(cU [320] (cM [1920,78])))::(40,(cV [328,344,360,368,376,384,7,7,7,7,7]))::(cI 41 42 7 ((48,(cV [328]))::(cI 49 50 19 ((68,(cV [464,472]))::(cI 69 70 3 ((72,(cQ 10 (cM [522,3507]) (cM [522,3504])))::(73,(cV [7,7,7,7]))::(75,(cV [7,7,7,7]))::(cI 94 95 3 (cI 100 102 3 []))))))))))))))) [] (.prog cB cB 0 cB (cV [3])),
 lO [sA,sP,sU [2,10,258,266,514,522,1026,1034,1050],sU [7],sU [7],sU [7],sU [7]] cB] (by kernel_rfl) (by kernel_rfl) (by kernel_rfl)
def d4aab : List (List (SB × Bool) × Leaf) := [
  ([h104,h61,h59,h80,h18,h15],.cut 5 (mkD i4_5 0 [(21,n0),(22,n0)]) [] [r0,(.con 0),(.con 0),(.con 0)]),
  ([h105,h56,h61,h59,h80,h18,h15],.cut 6 (mkD i4_6 0 [(21,n0),(22,n0)]) [] [r0,(.con 0),(.con 0),(.con 0)]),
  ([h101,h56,h61,h59,h80,h18,h15],.cut 8 (mkD i4_8 0 [(14,n1),(15,v6),(17,n1),(18,v7)]) [] [r0,(.con 0),(.con 0),(.con 0)]),
  ([h125,h59,h80,h18,h15],.cut 9 (mkD i4_9 0 [(16,n0),(17,n0)]) [] [(.con 0),(.con 0),(.con 0)]),
  ([h162,h96,h80,h18,h15],.cut 9 (mkD i4_9 0 [(16,n0),(17,n0)]) [] [(.con 0),(.con 0),(.con 0)]),
  ([h141,h96,h80,h18,h15],.cut 9 (mkD i4_9 0 [(16,n0),(17,n0)]) [] [(.con 0),(.con 0),(.con 0)])]
theorem q4aab : QQ 4 ⟨4,none,0,none,0,none⟩ true x4aab z4aab := Cl.partK 1000000 d4aab [lT [sA,sE 770,sP,sU [2,10,258,266,514,522,1026,1034],sU [7]] [(0,(cQ 10 (cM [522,3]) (cM [522,0]))),(48,(cQ 10 (cM [522,51]) (cM [522,48])))] [] .non,
 lT [sA,sE 770,sP,sU [2,10,258,266,514,522,1026,1034],sU [7]] [(0,(cQ 10 (cM [522,3]) (cM [522,0]))),(36,(cQ 10 (cM [522,51]) (cM [522,48])))] [] .non,
 lT [sA,sE 770,sP,sU [2,10,258,266,514,522,778,1026,1034],sU [770],sU [7]] [(0,(cQ 10 (cM [522,3]) (cM [522,0]))),(36,(cQ 10 (cM [522,51]) (cM [522,48])))] [] .non,
 lT [sA,sP,sU [2,10,258,266,514,522],sU [7]] [(0,(cQ 10 (cM [522,3]) (cM [522,0]))),(36,(cQ 10 (cM [522,51]) (cM [522,48])))] [] .non,
 lT [sA,sP,sU [2,10,258,266,514,522],sU [7]] [(0,(cQ 10 (cM [522,3]) (cM [522,0]))),(36,(cQ 10 (cM [522,51]) (cM [522,48])))] [] .non,
 lT [sA,sP,sU [2,10,258,266,514,522],sU [7]] [(0,(cQ 10 (cM [522,3]) (cM [522,0]))),(36,(cQ 10 (cM [522,51]) (cM [522,48])))] [] .non] (by kernel_rfl) (by kernel_rfl) (by kernel_rfl)
def d3aa : List (List (SB × Bool) × Leaf) := [
  ([h167,h61,h59,h18,h15],.cut 11 i3_11 [] [r0,(.con 0),(.con 0)]),
  ([h166,h61,h59,h18,h15],.cut 12 i3_12 [] [r0,(.con 0),(.con 0)]),
  ([h125,h59,h18,h15],.cut 14 i3_14 [] [(.con 0),(.con 0)]),
  ([h162,h96,h18,h15],.cut 14 i3_14 [] [(.con 0),(.con 0)]),
  ([h141,h96,h18,h15],.cut 14 i3_14 [] [(.con 0),(.con 0)])]
theorem q3aa : QQ 3 ⟨4,none,0,none,0,none⟩ true x3aa z3aa := Cl.partK 1000000 d3aa [lT [sA,sE 770,sP,sU [2,10,258,266,514,522,1026,1034],sU [7]] [(0,(cQ 10 (cM [522,3]) (cM [522,0]))),(48,(cQ 10 (cM [522,51]) (cM [522,48])))] [] .non,
 lT [sA,sE 770,sP,sU [2,10,258,266,514,522,778,1026,1034],sU [770],sU [7]] [(0,(cQ 10 (cM [522,3]) (cM [522,0]))),(37,(cQ 10 (cM [522,51]) (cM [522,48])))] [] .non,
 lT [sA,sP,sU [2,10,258,266,514,522],sU [7]] [(0,(cQ 10 (cM [522,3]) (cM [522,0]))),(36,(cQ 10 (cM [522,51]) (cM [522,48])))] [] .non,
 lT [sA,sP,sU [2,10,258,266,514,522],sU [7]] [(0,(cQ 10 (cM [522,3]) (cM [522,0]))),(36,(cQ 10 (cM [522,51]) (cM [522,48])))] [] .non,
 lT [sA,sP,sU [2,10,258,266,514,522],sU [7]] [(0,(cQ 10 (cM [522,3]) (cM [522,0]))),(36,(cQ 10 (cM [522,51]) (cM [522,48])))] [] .non] (by kernel_rfl) (by kernel_rfl) (by kernel_rfl)
def d12bbbba : List (List (SB × Bool) × Leaf) := [
  ([h97,h68,h8,h4,h3,h2,h0,h7,h34],.cut 13 (mkD i12_13 0 [(15,n5),(17,v7)]) [] [r0,r2,r1]),
  ([h55,h45,h68,h8,h4,h3,h2,h0,h7,h34],.cut 13 (mkD i12_13 0 [(15,n5),(17,v7)]) [] [r0,r2,r1]),
  ([h53,h45,h68,h8,h4,h3,h2,h0,h7,h34],.cut 13 (mkD i12_13 0 [(15,n6),(17,v7)]) [] [r0,r2,r1])]
theorem q12bbbba : QQ 12 m12 true x12bbbba z12bbbba := Cl.partK 1000000 d12bbbba [lT [sA,sP,sU [2,10,258,266,514,522],sP,sU [7],sU [7]] ((0,(cQ 10 (cM [522,3]) (cM [522,0])))::(1,(cV [7,7]))::(3,(cV [7,7,7,7]))::(4,(cV [7,7,7,7]))::(27,(cQ 42 (cM [2058,1347]) (cM [2058,1344])))::(34,(cV [280]))::(36,(cQ 10 (cM [522,1779]) (cM [522,1776])))::(37,(cV [7,7,7,7]))::(39,(cV [7,7,7,7]))::(cI 64 69 2 [])) [] .non,
 lO [sA,sP] cB,
 lT [sA,sP,sU [2,10,258,266,514,522],sU [7]] ((0,(cQ 10 (cM [522,3]) (cM [522,0])))::(1,(cV [7,7,7,7,7,7]))::(2,(cV [16]))::(3,(cU [24] (cM [144,78])))::(4,(cV [32,40,48,56,72,80,7,7,7,7,7]))::(cI 5 5 7 ((12,(cV [32]))::(cI 13 13 9 ((24,(cV [200]))::(27,(cV [224]))::(30,(cV [248]))::(cI 33 34 3 [(36,(cQ 10 (cM [522,1779]) (cM [522,1776]))),(37,(cV [7,7,7,7])),(39,(cV [7,7,7,7])),(58,(cV [472])),(64,(cV [552])),(65,(cV [472])),(66,(cV [568]))])))))) [] .non] (by kernel_rfl) (by kernel_rfl) (by kernel_rfl)
def d4bab : List (List (SB × Bool) × Leaf) := [
  ([h104,h61,h59,h80,h18,h37],.cut 8 (mkD i4_8 0 [(17,n1),(18,v7)]) [] [r0,(.con 0),(.con 0),(.con 0)]),
  ([h105,h56,h61,h59,h80,h18,h37],.cut 6 (mkD i4_6 0 [(18,n0),(19,n0),(21,n0),(22,n0)]) [] [r0,(.con 0),(.con 0),(.con 0)]),
  ([h101,h56,h61,h59,h80,h18,h37],.cut 8 (mkD i4_8 0 [(17,n1),(18,v7)]) [] [r0,(.con 0),(.con 0),(.con 0)]),
  ([h125,h59,h80,h18,h37],.cut 9 (mkD i4_9 0 [(10,n0),(11,n0),(16,n0),(17,n0)]) [] [(.con 0),(.con 0),(.con 0)]),
  ([h162,h96,h80,h18,h37],.cut 9 (mkD i4_9 0 [(10,n0),(11,n0),(16,n0),(17,n0)]) [] [(.con 0),(.con 0),(.con 0)]),
  ([h141,h96,h80,h18,h37],.cut 9 (mkD i4_9 0 [(10,n0),(11,n0),(16,n0),(17,n0)]) [] [(.con 0),(.con 0),(.con 0)])]
theorem q4bab : QQ 4 ⟨4,none,0,none,0,none⟩ true x4bab z4bab := Cl.partK 1000000 d4bab [lT [sA,sE 770,sP,sU [2,10,258,266,514,522,1026,1034],sU [7]] [(36,(cQ 10 (cM [522,51]) (cM [522,48])))] [] .non,
 lT [sA,sE 770,sP,sU [2,10,258,266,514,522,1026,1034],sU [7]] [(36,(cQ 10 (cM [522,51]) (cM [522,48])))] [] .non,
 lT [sA,sE 770,sP,sU [2,10,258,266,514,522,778,1026,1034],sU [770],sU [7]] [(36,(cQ 10 (cM [522,51]) (cM [522,48])))] [] .non,
 lT [sA,sP,sU [2,10,258,266,514,522],sU [7]] [(36,(cQ 10 (cM [522,51]) (cM [522,48])))] [] .non,
 lT [sA,sP,sU [2,10,258,266,514,522],sU [7]] [(36,(cQ 10 (cM [522,51]) (cM [522,48])))] [] .non,
 lT [sA,sP,sU [2,10,258,266,514,522],sU [7]] [(36,(cQ 10 (cM [522,51]) (cM [522,48])))] [] .non] (by kernel_rfl) (by kernel_rfl) (by kernel_rfl)
def d5bbbbbbbb : List (List (SB × Bool) × Leaf) := [
  ([h149,h15,h35,h17,h14,h13,h8,h4,h3,h2,h0,h7,h22,h23],.cut 8 (mkD i5_8 0 [(14,n5),(16,n1)]) [] [r0,(.upd (.con 0) n0 v39),r2,r3]),
  ([h137,h15,h35,h17,h14,h13,h8,h4,h3,h2,h0,h7,h22,h23],.cut 8 (mkD i5_8 0 [(14,n0),(16,n1)]) [] [r0,(.upd (.con 0) n0 v39),r2,r3]),
  ([h37,h35,h17,h14,h13,h8,h4,h3,h2,h0,h7,h22,h23],.cut 8 (mkD i5_8 0 [(14,n0),(15,n0),(16,n1)]) [] [r0,(.upd (.con 0) n0 v39),r2,r3])]
theorem q5bbbbbbbb : QQ 5 m5 true x5bbbbbbbb z5bbbbbbbb := Cl.partK 1000000 d5bbbbbbbb [lO [sA,sP] cB,
 lO [sA,sP] cB,
 lO [sA,sP] cB] (by kernel_rfl) (by kernel_rfl) (by kernel_rfl)
def d12bbbbbbbb : List (List (SB × Bool) × Leaf) := [
  ([h149,h15,h35,h17,h14,h13,h8,h4,h3,h2,h0,h7,h34],.cut 13 (mkD i12_13 0 [(15,n5),(17,n1)]) [] [r0,r2,(.upd (.con 0) n0 v27)]),
  ([h137,h15,h35,h17,h14,h13,h8,h4,h3,h2,h0,h7,h34],.cut 13 (mkD i12_13 0 [(15,n0),(17,n1)]) [] [r0,r2,(.upd (.con 0) n0 v27)]),
  ([h37,h35,h17,h14,h13,h8,h4,h3,h2,h0,h7,h34],.cut 13 (mkD i12_13 0 [(15,n0),(16,n0),(17,n1)]) [] [r0,r2,(.upd (.con 0) n0 v27)])]
theorem q12bbbbbbbb : QQ 12 m12 true x12bbbbbbbb z12bbbbbbbb := Cl.partK 1000000 d12bbbbbbbb [lO [sA,sP] cB,
 lO [sA,sP] cB,
 lO [sA,sP] cB] (by kernel_rfl) (by kernel_rfl) (by kernel_rfl)
theorem q16aabba : QQ 16 m16 true x16aabba z16aabba := Cl.partK 1000000 [ ([h189,h173,h58,h54,h106,h12,h29,h30],.cut 17 (mkD i16_17 0 [(9,n2)]) [] [r1,r0]),([h187,h173,h58,h54,h106,h12,h29,h30],.cut 17 (mkD i16_17 0 [(1,n0)]) [] [r1,r0])] [lT [sA,sP,sU [2,10,258,266,514,522,770,778,1026,1034],sU [794],sU [7],sU [7]] [(0,(cQ 10 (cM [522,3]) (cM [522,0]))),(1,(cV [7,7,7,7,7,7])),(2,(cQ 26 (cM [1290,99]) (cM [1290,96]))),(26,(cQ 42 (cM [2058,1203]) (cM [2058,1200]))),(37,(cQ 10 (cM [522,1731]) (cM [522,1728]))),(38,(cV [7,7])),(39,(cV [7,7,7,7])),(40,(cV [7,7,7,7])),(66,(cQ 42 (cM [2058,2931]) (cM [2058,2928])))] [] (.same cB [[cB,cB,(cV [19])],[]]),
 lO [sA,sP] cB] (by kernel_rfl) (by kernel_rfl) (by kernel_rfl)
theorem q17bba : QQ 17 m17 true x17bba z17bba := Cl.partK 1000000 [ ([h144,h3,h2,h0,h1,h16],.cut 16 (mkD i17_16 0 [(12,n4),(14,v4),(24,v18)]) [] [r1,r0])] [lT [sA,sP,sU [2,10,258,266,514,522,1026,1034,1050],sP,sU [7],sU [7]] ((0,(cQ 10 (cM [522,3]) (cM [522,0])))::(1,(cV [7,7,7,7,7,7]))::(2,(cV [16]))::(3,(cU [24] (cM [144,78])))::(4,(cV [32,40,48,56,72,80,7,7,7,7,7]))::(cI 5 5 7 ((12,(cV [32]))::(cI 13 13 8 ((26,(cV [216]))::(29,(cV [240]))::(34,(cV [280]))::(36,(cQ 10 (cM [522,1779]) (cM [522,1776])))::(37,(cV [7,7]))::(39,(cV [7,7,7,7]))::(40,(cV [7,7,7,7]))::(cI 58 59 3 (cI 61 66 3 []))))))) [] (.prog cB cB 0 cB (cV [3]))] (by kernel_rfl) (by kernel_rfl) (by kernel_rfl)
theorem q17bbbbbba : QQ 17 m17 true x17bbbbbba z17bbbbbba := Cl.partK 1000000 [ ([h151,h14,h13,h8,h4,h3,h2,h0,h1,h16],.cut 16 (mkD i17_16 0 [(12,n8),(14,v4),(26,v20)]) [] [r1,r0])] [lT [sA,sP,sU [2,10,258,266,514,522,1026,1034,1050],sU [7],sU [7]] ((0,(cQ 10 (cM [522,3]) (cM [522,0])))::(1,(cV [7,7,7,7,7,7]))::(2,(cV [16]))::(3,(cU [24] (cM [144,78])))::(4,(cV [32,40,48,56,72,80,7,7,7,7,7]))::(cI 5 5 7 ((12,(cV [32]))::(cI 13 13 9 ((24,(cV [200]))::(27,(cV [224]))::(30,(cV [248]))::(cI 33 34 3 [(36,(cQ 10 (cM [522,1779]) (cM [522,1776]))),(37,(cV [7,7,7,7])),(39,(cV [7,7,7,7])),(58,(cV [472])),(67,(cV [576])),(68,(cV [472])),(69,(cV [592]))])))))) [] (.prog cB cB 0 cB (cV [11]))] (by kernel_rfl) (by kernel_rfl) (by kernel_rfl)
def d18abbbba : List (List (SB × Bool) × Leaf) := [
  ([h189,h174,h43,h38,h28,h51,h12,h9,h10,h11],.cut 20 (mkD i18_20 0 [(9,n2),(15,v11),(27,v20),(28,v21),(33,v24),(34,v25),(35,v26),(36,v27)]) [] [r2,r0,r1]),
  ([h187,h174,h43,h38,h28,h51,h12,h9,h10,h11],.cut 20 (mkD i18_20 0 [(1,n0),(15,v11),(27,v20),(28,v21),(33,v24),(34,v25),(35,v26),(36,v27)]) [] [r2,r0,r1])]
theorem q18abbbba : QQ 18 m18 true x18abbbba z18abbbba := Cl.partK 1000000 d18abbbba [lT [sA,sP,sU [2,10,258,266,514,522,770,778,1026,1034],sU [794],sU [7],sU [7]] ((0,(cQ 10 (cM [522,3]) (cM [522,0])))::(1,(cV [7,7,7,7]))::(3,(cV [7,7,7,7,7]))::(4,(cV [32,40,48,56,64,72,80,88,7,7,7,7]))::(cI 5 5 7 ((12,(cV [32]))::(cI 13 13 8 ((26,(cV [200]))::(29,(cV [224]))::(35,(cV [272]))::(37,(cQ 10 (cM [522,1731]) (cM [522,1728])))::(38,(cV [7,7,7,7,7,7]))::(39,(cV [304]))::(40,(cU [312] (cM [1872,78])))::(41,(cV [320,336,352,360,368,376,7,7,7,7,7]))::(cI 42 41 7 ((49,(cV [320]))::(cI 50 49 19 ((69,(cV [456,464]))::(cI 70 69 3 ((73,(cQ 10 (cM [522,3459]) (cM [522,3456])))::(74,(cV [7,7]))::(75,(cV [7,7,7,7]))::(76,(cV [7,7,7,7]))::(cI 95 94 3 (cI 102 97 3 []))))))))))))) [] (.same cB [[cB,cB,(cV [19])],[(cV [3]),cB,(cV [19]),(cV [27])],[(cV [3]),(cV [11]),(cV [19]),(cV [27]),(cV [35])]]),
 lT [sA,sP,sU [2,10,258,266,514,522,770,778,1026,1034],sP,sU [794],sU [7],sU [7]] ((0,(cQ 10 (cM [522,3]) (cM [522,0])))::(1,(cV [7,7,7,7]))::(3,(cV [7,7,7,7]))::(29,(cV [224]))::(32,(cV [248]))::(36,(cV [280]))::(37,(cQ 10 (cM [522,1731]) (cM [522,1728])))::(38,(cV [7,7,7,7,7,7]))::(39,(cV [304]))::(40,(cU [312] (cM [1872,78])))::(41,(cV [320,328,336,344,360,368,7,7,7,7,7]))::(cI 42 41 7 ((49,(cV [320]))::(cI 50 49 9 ((61,(cV [480]))::(64,(cV [504]))::(67,(cV [528]))::(cI 70 69 3 ((73,(cQ 10 (cM [522,3459]) (cM [522,3456])))::(74,(cV [7,7]))::(75,(cV [7,7,7,7]))::(76,(cV [7,7,7,7]))::(cI 95 94 3 (cI 102 97 3 []))))))))) [] (.same cB [[],[cB,(cV [11])],[(cV [3]),(cV [11]),(cV [19]),cB,(cV [35])]])] (by kernel_rfl) (by kernel_rfl) (by kernel_rfl)
theorem q11bbbbba : QQ 11 m11 true x11bbbbba z11bbbbba := Cl.partK 1000000 [ ([h150,h13,h8,h4,h3,h2,h0,h7,h34],.cut 13 (mkD i11_13 0 [(12,n7),(14,v7),(25,(.wrap .u64 (.add v1 n1))),(28,v1)]) [] [r0,r1,r2])] [lT [sA,sP,sU [2,10,258,266,514,522,770,778],sU [7],sU [786],sU [7]] ((0,(cQ 10 (cM [522,3]) (cM [522,0])))::(1,(cV [7,7,7,7]))::(3,(cV [7,7,7,7]))::(22,(cV [176]))::(28,(cV [256]))::(29,(cV [176]))::(30,(cV [272]))::(35,(cQ 26 (cM [1290,4719,2115]) (cM [2112,1290,4716])))::(36,(cQ 10 (cM [522,2307]) (cM [522,2304])))::(37,(cV [7,7,7,7,7,7]))::(38,(cV [400]))::(39,(cU [408] (cM [2448,78])))::(40,(cV [416,424,432,440,456,464,7,7,7,7,7]))::(cI 41 53 7 ((48,(cV [416]))::(cI 49 61 9 [(60,(cV [584])),(63,(cV [608])),(66,(cV [632])),(69,(cV [656])),(70,(cV [176])),(71,(cV [672]))])))) [] .non] (by kernel_rfl) (by kernel_rfl) (by kernel_rfl)
theorem q20bbbbba : QQ 20 m20 true x20bbbbba z20bbbbba := Cl.partK 1000000 [ ([h150,h13,h8,h4,h3,h2,h0,h1,h5,h6],.cut 18 (mkD i20_18 0 [(17,n7),(19,v4),(23,(.wrap .u64 (.add v1 n1))),(30,v1)]) [] [r1,r2,r0])] [lT [sA,sP,sU [2,10,258,266,514,522,1026,1034,1050,1282,1290],sU [7],sU [1298],sU [7]] ((0,(cQ 10 (cM [522,3]) (cM [522,0])))::(1,(cV [7,7,7,7,7,7]))::(2,(cV [16]))::(3,(cU [24] (cM [144,78])))::(4,(cV [32,40,48,56,72,80,7,7,7,7,7]))::(cI 5 5 7 ((12,(cV [32]))::(cI 13 13 9 ((24,(cV [200]))::(27,(cV [224]))::(30,(cV [248]))::(cI 33 34 3 ((36,(cQ 10 (cM [522,1779]) (cM [522,1776])))::(37,(cV [7,7,7,7,7,7]))::(38,(cV [312]))::(39,(cU [320] (cM [1920,78])))::(40,(cV [328,336,344,352,368,376,7,7,7,7,7]))::(cI 41 42 7 ((48,(cV [328]))::(cI 49 50 19 ((68,(cV [464,472]))::(cI 69 70 3 [(72,(cQ 10 (cM [522,3507]) (cM [522,3504]))),(73,(cV [7,7,7,7])),(75,(cV [7,7,7,7])),(94,(cV [760])),(100,(cV [840])),(101,(cV [760])),(102,(cV [856])),(107,(cQ 26 (cM [1290,7791,5619]) (cM [5616,1290,7788])))])))))))))))) [] (.prog cB cB 0 cB (cV [11]))] (by kernel_rfl) (by kernel_rfl) (by kernel_rfl)
def d1 : List (List (SB × Bool) × Leaf) := [
  ([((.lss n7 (.rem v4 n9)),true),h202,h164,h131,h114,h100,h92,h83],.cut 3 i1_3 [(.var 0),(.var 1)] [r0]),
  ([((.lss n7 (.rem v4 n9)),false),h202,h164,h131,h114,h100,h92,h83],.cut 3 (mkD i1_3 0 [(7,(.lit 14))]) [(.var 0),(.var 1)] [r0]),
  ([((.lss n6 (.rem v4 n9)),false),h164,h131,h114,h100,h92,h83],.cut 3 (mkD i1_3 0 [(7,(.lit 12))]) [(.var 0),(.var 1)] [r0]),
  ([((.lss n5 (.rem v4 n9)),false),h131,h114,h100,h92,h83],.cut 3 (mkD i1_3 0 [(7,(.lit 10))]) [(.var 0),(.var 1)] [r0]),
  ([((.lss n4 (.rem v4 n9)),false),h114,h100,h92,h83],.cut 3 (mkD i1_3 0 [(7,n8)]) [(.var 0),(.var 1)] [r0]),
  ([((.lss n3 (.rem v4 n9)),false),h100,h92,h83],.cut 3 (mkD i1_3 0 [(7,n6)]) [(.var 0),(.var 1)] [r0]),
  ([((.lss n2 (.rem v4 n9)),false),h92,h83],.cut 3 (mkD i1_3 0 [(7,n4)]) [(.var 0),(.var 1)] [r0]),
  ([((.lss n1 (.rem v4 n9)),false),h83],.cut 3 (mkD i1_3 0 [(7,n2)]) [(.var 0),(.var 1)] [r0]),
  ([((.lss n0 (.rem v4 n9)),false)],.cut 3 (mkD i1_3 0 [(7,n0)]) [(.var 0),(.var 1)] [r0])]
theorem q1 : QQ 1 ⟨5,none,0,none,0,none⟩ true g0 t1.cfg := Cl.partK 1000000 d1 [lT [sA,sP,sU [2,10,266]] [(0,(cQ 10 (cM [522,3]) (cM [522,0])))] [] .non,
 lT [sA,sP,sU [2,10]] [(0,(cQ 10 (cM [522,3]) (cM [522,0])))] [] .non,
 lT [sA,sP,sU [2,10]] [(0,(cQ 10 (cM [522,3]) (cM [522,0])))] [] .non,
 lT [sA,sP,sU [2,10]] [(0,(cQ 10 (cM [522,3]) (cM [522,0])))] [] .non,
 lT [sA,sP,sU [2,10]] [(0,(cQ 10 (cM [522,3]) (cM [522,0])))] [] .non,
 lT [sA,sP,sU [2,10]] [(0,(cQ 10 (cM [522,3]) (cM [522,0])))] [] .non,
 lT [sA,sP,sU [2,10]] [(0,(cQ 10 (cM [522,3]) (cM [522,0])))] [] .non,
 lT [sA,sP,sU [2,10]] [(0,(cQ 10 (cM [522,3]) (cM [522,0])))] [] .non,
 lT [sA,sP,sU [2,10,258]] [(0,(cQ 10 (cM [522,3]) (cM [522,0])))] [] .non] (by kernel_rfl) (by kernel_rfl) (by kernel_rfl)
theorem q6bbbbbbbab : QQ 6 m6 true x6bbbbbbbab z6bbbbbbbab := Cl.partK 1000000 [ ([h37,h18,h17,h14,h13,h8,h4,h3,h2,h0,h7,h22,h23],.cut 8 (mkD i6_8 0 [(17,n0),(18,n0)]) [] [r0,r2,(.upd r1 v7 v38),r3])] [lO [sA,sP] cB] (by kernel_rfl) (by kernel_rfl) (by kernel_rfl)
theorem q15bbbbbbbab : QQ 15 m15 true x15bbbbbbbab z15bbbbbbbab := Cl.partK 1000000 [ ([h95,h25,h17,h14,h13,h8,h4,h3,h2,h0,h1,h16],.cut 16 (mkD i15_16 0 [(9,n0),(10,n0)]) [] [(.upd r0 v4 v25),r1])] [lO [sA,sP] cB] (by kernel_rfl) (by kernel_rfl) (by kernel_rfl)
theorem q13aaaa : QQ 13 m13 true x13aaaa z13aaaa := Cl.partK 1000000 [ ([h198,h79,h32,h36,h70,h71],.cut 13 i13_13 [] [r0,r1,r2])] [lT [sA,sE 770,sP,sU [2,10,258,266,514,522,1026,1034],sU [7]] [] [] .non] (by kernel_rfl) (by kernel_rfl) (by kernel_rfl)

end
end Go.Proofs.YtmmehhibkpfghaaGreat.safeMutual
