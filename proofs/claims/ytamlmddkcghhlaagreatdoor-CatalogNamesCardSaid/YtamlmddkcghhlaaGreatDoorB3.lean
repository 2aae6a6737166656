/-
  The two environments of the seat are right.
-/
import Derived.Test.YtamlmddkcghhlaaGreatDoorB1
import Derived.Test.YtamlmddkcghhlaaGreatDoorA5
import Derived.Test.YtamlmddkcghhlaaGreatDoorB2
set_option linter.unusedSimpArgs false
set_option linter.unusedVariables false
namespace Go.Proofs.YtamlmddkcghhlaaGreatDoor
open Go Go.Ab
set_option maxRecDepth 100000
def xrows : List (Nat × Ext) := [(172, .mapsClone), (218, .cmpstring), (292, .countByte), (338, .noEscape), (376, .indexByte), (383, .indexByte)]
theorem tt_ok : layPT (tiRows Tryz.prog types) = tt := by kernel_rfl
theorem ft_ok : layPT (feRows Tryz.prog bodies xrows) = ft := by kernel_rfl
theorem types_ok : types.all (typeOk env0) = true := by kernel_rfl
def bodies0 : List Nat := [2, 3, 4, 5, 6, 7, 8, 9, 10, 11, 12, 13, 14, 15, 16, 17, 18, 19, 20, 21, 22, 23, 24, 25, 26, 27, 28, 29, 30, 31, 32, 33, 34, 35, 36, 37, 38, 39, 40, 41, 42, 43, 44, 45, 46, 47, 48, 49, 50, 51, 52, 53, 54, 55, 56, 57, 58, 59, 60, 61, 62, 63, 64, 65, 66, 67, 68, 69, 70, 71, 72, 73, 74, 75, 76, 77, 78, 79, 80, 81, 82, 83, 84, 85, 86, 87, 88, 89, 90, 91, 92, 93, 94, 95, 96, 97, 98, 99]
theorem bodies0_ok : bodies0.all (bodyOk Tryz.prog tt ri 7) = true := by kernel_rfl
def bodies1 : List Nat := [100, 101, 102, 103, 104, 105, 106, 107, 108, 109, 110, 111, 112, 113, 114, 115, 116, 117, 118, 119, 120, 121, 122, 123, 124, 125, 126, 127, 128, 129, 130, 131, 132, 133, 134, 135, 136, 137, 138, 139, 140, 141, 142, 143, 145, 146, 147, 148, 149, 150, 151, 152, 153, 154, 155, 156, 157, 158, 159, 160, 161, 162, 163, 164, 165, 166, 167, 168, 169, 170, 171, 173, 174, 175, 176, 177, 178, 179, 180, 181, 182, 183, 184, 185, 186, 187, 188, 189, 190, 191, 192, 193, 194, 195, 196, 197, 198, 199]
theorem bodies1_ok : bodies1.all (bodyOk Tryz.prog tt ri 7) = true := by kernel_rfl
def bodies2 : List Nat := [200, 201, 202, 203, 204, 205, 206, 207, 208, 209, 210, 211, 212, 213, 214, 215, 216, 217, 219, 220, 221, 222, 223, 224, 225, 226, 227, 228, 229, 231, 232, 233, 234, 235, 236, 237, 238, 239, 240, 241, 242, 243, 244, 245, 246, 247, 248, 249, 250, 251, 252, 253, 254, 255, 256, 257, 258, 259, 260, 261, 262, 263, 264, 265, 266, 267, 268, 269, 270, 271, 272, 273, 274, 275, 276, 277, 278, 279, 280, 281, 282, 283, 284, 285, 286, 287, 288, 289, 290, 291, 293, 294, 295, 296, 297, 298, 299, 300]
theorem bodies2_ok : bodies2.all (bodyOk Tryz.prog tt ri 7) = true := by kernel_rfl
def bodies3 : List Nat := [301, 302, 303, 304, 305, 306, 307, 308, 309, 310, 311, 312, 313, 314, 315, 316, 317, 318, 319, 320, 321, 322, 323, 324, 325, 326, 327, 328, 329, 330, 331, 332, 333, 334, 335, 336, 337, 339, 340, 341, 342, 343, 344, 345, 346, 347, 348, 349, 350, 351, 352, 353, 354, 355, 356, 357, 358, 359, 360, 361, 362, 363, 364, 365, 366, 367, 368, 369, 370, 371, 373, 374, 375, 377, 378, 379, 380, 381, 382, 384, 385, 386, 387, 388, 389, 390, 391, 392, 393, 394, 395, 396, 397, 398, 443]
theorem bodies3_ok : bodies3.all (bodyOk Tryz.prog tt ri 7) = true := by kernel_rfl
theorem bodies_all : bodies = bodies0 ++ (bodies1 ++ (bodies2 ++ (bodies3))) := rfl
theorem ext172_ok : ExtOk Tryz.prog (172, .mapsClone) := ⟨Tryz.f172, by kernel_rfl, by decide, by kernel_rfl, by kernel_rfl, by kernel_rfl⟩
theorem ext218_ok : ExtOk Tryz.prog (218, .cmpstring) := ⟨Tryz.f218, by kernel_rfl, by decide, by kernel_rfl, by kernel_rfl, by kernel_rfl⟩
theorem ext292_ok : ExtOk Tryz.prog (292, .countByte) := ⟨Tryz.f292, by kernel_rfl, by decide, by kernel_rfl, by kernel_rfl, by kernel_rfl⟩
theorem ext338_ok : ExtOk Tryz.prog (338, .noEscape) := ⟨Tryz.f338, by kernel_rfl, by decide, by kernel_rfl, by kernel_rfl, by kernel_rfl⟩
theorem ext376_ok : ExtOk Tryz.prog (376, .indexByte) := ⟨Tryz.f376, by kernel_rfl, by decide, by kernel_rfl, by kernel_rfl, by kernel_rfl⟩
theorem ext383_ok : ExtOk Tryz.prog (383, .indexByte) := ⟨Tryz.f383, by kernel_rfl, by decide, by kernel_rfl, by kernel_rfl, by kernel_rfl⟩
end Go.Proofs.YtamlmddkcghhlaaGreatDoor
namespace Go.Proofs.YtamlmddkcghhlaaGreatDoor
open Go Go.Ab
theorem envOK0 : EnvOK Tryz.prog env0 7 := by
  refine envOK_of tt_ok ft_ok types_ok ?_ ?_ (fun _ _ h => by cases h) (by kernel_rfl)
  · intro f hf
    rw [bodies_all] at hf
    simp only [List.mem_append] at hf
    rcases hf with hf | hf | hf | hf
    · exact List.all_eq_true.1 bodies0_ok f hf
    · exact List.all_eq_true.1 bodies1_ok f hf
    · exact List.all_eq_true.1 bodies2_ok f hf
    · exact List.all_eq_true.1 bodies3_ok f hf
  · intro p hp
    simp only [xrows, List.mem_cons, List.not_mem_nil, or_false] at hp
    rcases hp with rfl | rfl | rfl | rfl | rfl | rfl
    · exact ext172_ok
    · exact ext218_ok
    · exact ext292_ok
    · exact ext338_ok
    · exact ext376_ok
    · exact ext383_ok
theorem envOK1 : EnvOK Tryz.prog env1 7 where
  tt := envOK0.tt
  fields := envOK0.fields
  body := envOK0.body
  ext := envOK0.ext
  sumBody := fun f g hf => by
    change (Bool.rec (motive := fun _ => Option (List AV → H → Option (AV × H))) (Bool.rec (motive := fun _ => Option (List AV → H → Option (AV × H))) none (some pageOpen) (Nat.beq f 301)) (some sumMore) (Nat.beq f 351)) = some g at hf
    cases h1 : Nat.beq f 351 with
    | true =>
      have := Nat.eq_of_beq_eq_true h1
      subst this
      exact ⟨_, ft351'⟩
    | false =>
      rw [h1] at hf
      cases h2 : Nat.beq f 301 with
      | false => rw [h2] at hf; cases hf
      | true =>
        have := Nat.eq_of_beq_eq_true h2
        subst this
        exact ⟨_, ft301'⟩
  mixed := envOK0.mixed
/-- What the machine with summaries shows, the model does. -/
theorem sim1 {B : Nat} (n : Nat) : CallSim Tryz.prog env1 7 B (recN env1 n).call := (sim_all envOK1 (sums1 envOK0) n).1
end Go.Proofs.YtamlmddkcghhlaaGreatDoor
