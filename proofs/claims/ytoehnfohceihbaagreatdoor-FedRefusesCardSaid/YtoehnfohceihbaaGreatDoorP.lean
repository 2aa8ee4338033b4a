/- The table of the functions that the law reaches: it is the program's; slices.Insert. Conditions: none. -/
import Derived.Test.YtoehnfohceihbaaGreatDoorT
import Derived.Test.YtoehnfohceihbaaGreatDoorQ

set_option maxRecDepth 100000
set_option linter.unusedVariables false
namespace Go.Proofs.YtoehnfohceihbaaGreatDoor
open Go.Vx
theorem hp : ∀ f vf, pK f = some vf → fnC Tryz.prog f = some vf := tab_hp (⟨⟨.no _ 0, .no _ 1, .no _ 2, .no _ 3, .yes q4, .no _ 5, .yes q6, .yes q7, .yes q8, .yes q9, .no _ 10, .yes q11, .yes q12, .no _ 13, .yes q14, .no _ 15⟩,
  ⟨.yes q16, .yes q17, .yes q18, .yes q19, .yes q20, .yes q21, .yes q22, .yes q23, .yes q24, .yes q25, .yes q26, .yes q27, .no _ 28, .yes q29, .yes q30, .yes q31⟩,
  ⟨.no _ 32, .yes q33, .yes q34, .yes q35, .yes q36, .yes q37, .yes q38, .yes q39, .yes q40, .yes q41, .yes q42, .yes q43, .yes q44, .yes q45, .no _ 46, .no _ 47⟩,
  ⟨.no _ 48, .yes q49, .yes q50, .yes q51, .no _ 52, .no _ 53, .yes q54, .no _ 55, .no _ 56, .yes q57, .no _ 58, .yes q59, .yes q60, .yes q61, .yes q62, .yes q63⟩,
  ⟨.yes q64, .no _ 65, .yes q66, .yes q67, .yes q68, .yes q69, .yes q70, .no _ 71, .no _ 72, .no _ 73, .no _ 74, .no _ 75, .yes q76, .no _ 77, .no _ 78, .yes q79⟩,
  ⟨.no _ 80, .yes q81, .yes q82, .yes q83, .yes q84, .yes q85, .yes q86, .yes q87, .yes q88, .yes q89, .yes q90, .yes q91, .yes q92, .no _ 93, .yes q94, .yes q95⟩,
  ⟨.yes q96, .yes q97, .yes q98, .no _ 99, .no _ 100, .no _ 101, .yes q102, .yes q103, .yes q104, .yes q105, .yes q106, .yes q107, .yes q108, .yes q109, .yes q110, .yes q111⟩,
  ⟨.no _ 112, .yes q113, .yes q114, .yes q115, .no _ 116, .no _ 117, .yes q118, .yes q119, .yes q120, .yes q121, .yes q122, .yes q123, .no _ 124, .no _ 125, .no _ 126, .no _ 127⟩,
  ⟨.no _ 128, .no _ 129, .no _ 130, .no _ 131, .no _ 132, .no _ 133, .no _ 134, .no _ 135, .no _ 136, .no _ 137, .no _ 138, .no _ 139, .no _ 140, .no _ 141, .no _ 142, .no _ 143⟩,
  ⟨.no _ 144, .no _ 145, .yes q146, .yes q147, .yes q148, .yes q149, .yes q150, .yes q151, .no _ 152, .no _ 153, .no _ 154, .no _ 155, .no _ 156, .yes q157, .no _ 158, .no _ 159⟩,
  ⟨.no _ 160, .no _ 161, .no _ 162, .no _ 163, .no _ 164, .no _ 165, .no _ 166, .yes q167, .yes q168, .yes q169, .yes q170, .yes q171, .no _ 172, .no _ 173, .yes q174, .yes q175⟩,
  ⟨.yes q176, .yes q177, .no _ 178, .yes q179, .no _ 180, .no _ 181, .no _ 182, .no _ 183, .no _ 184, .no _ 185, .no _ 186, .no _ 187, .no _ 188, .no _ 189, .no _ 190, .no _ 191⟩,
  ⟨.yes q192, .no _ 193, .no _ 194, .no _ 195, .no _ 196, .no _ 197, .yes q198, .yes q199, .yes q200, .yes q201, .yes q202, .no _ 203, .no _ 204, .no _ 205, .no _ 206, .no _ 207⟩,
  ⟨.no _ 208, .no _ 209, .yes q210, .no _ 211, .no _ 212, .yes q213, .yes q214, .no _ 215, .yes q216, .yes q217, .yes q218, .no _ 219, .no _ 220, .yes q221, .no _ 222, .no _ 223⟩,
  ⟨.no _ 224, .no _ 225, .no _ 226, .no _ 227, .no _ 228, .no _ 229, .no _ 230, .no _ 231, .no _ 232, .yes q233, .no _ 234, .yes q235, .yes q236, .yes q237, .no _ 238, .no _ 239⟩,
  ⟨.no _ 240, .no _ 241, .no _ 242, .no _ 243, .no _ 244, .no _ 245, .yes q246, .no _ 247, .no _ 248, .no _ 249, .no _ 250, .no _ 251, .yes q252, .no _ 253, .no _ 254, .yes q255⟩⟩)
  (⟨⟨.yes q256, .yes q257, .yes q258, .yes q259, .yes q260, .no _ 261, .yes q262, .yes q263, .yes q264, .no _ 265, .no _ 266, .no _ 267, .yes q268, .no _ 269, .no _ 270, .no _ 271⟩,
  ⟨.no _ 272, .no _ 273, .yes q274, .no _ 275, .yes q276, .yes q277, .no _ 278, .no _ 279, .no _ 280, .no _ 281, .no _ 282, .no _ 283, .no _ 284, .no _ 285, .no _ 286, .no _ 287⟩,
  ⟨.no _ 288, .no _ 289, .no _ 290, .no _ 291, .no _ 292, .yes q293, .no _ 294, .no _ 295, .yes q296, .yes q297, .yes q298, .yes q299, .yes q300, .yes q301, .yes q302, .yes q303⟩,
  ⟨.yes q304, .no _ 305, .no _ 306, .no _ 307, .no _ 308, .yes q309, .no _ 310, .no _ 311, .yes q312, .yes q313, .no _ 314, .no _ 315, .no _ 316, .no _ 317, .no _ 318, .no _ 319⟩,
  ⟨.no _ 320, .no _ 321, .no _ 322, .no _ 323, .no _ 324, .no _ 325, .no _ 326, .no _ 327, .no _ 328, .no _ 329, .no _ 330, .no _ 331, .no _ 332, .no _ 333, .yes q334, .no _ 335⟩,
  ⟨.yes q336, .yes q337, .yes q338, .yes q339, .yes q340, .yes q341, .no _ 342, .no _ 343, .yes q344, .yes q345, .no _ 346, .no _ 347, .no _ 348, .no _ 349, .no _ 350, .yes q351⟩,
  ⟨.yes q352, .no _ 353, .no _ 354, .no _ 355, .no _ 356, .no _ 357, .no _ 358, .no _ 359, .no _ 360, .no _ 361, .no _ 362, .no _ 363, .no _ 364, .no _ 365, .yes q366, .no _ 367⟩,
  ⟨.yes q368, .no _ 369, .yes q370, .no _ 371, .yes q372, .no _ 373, .no _ 374, .no _ 375, .no _ 376, .no _ 377, .no _ 378, .no _ 379, .no _ 380, .no _ 381, .no _ 382, .no _ 383⟩,
  ⟨.no _ 384, .yes q385, .yes q386, .no _ 387, .yes q388, .no _ 389, .yes q390, .no _ 391, .no _ 392, .no _ 393, .no _ 394, .no _ 395, .no _ 396, .no _ 397, .no _ 398, .no _ 399⟩,
  ⟨.yes q400, .no _ 401, .no _ 402, .no _ 403, .no _ 404, .no _ 405, .no _ 406, .no _ 407, .no _ 408, .no _ 409, .no _ 410, .no _ 411, .no _ 412, .no _ 413, .no _ 414, .no _ 415⟩,
  ⟨.no _ 416, .no _ 417, .no _ 418, .no _ 419, .no _ 420, .no _ 421, .no _ 422, .no _ 423, .no _ 424, .no _ 425, .no _ 426, .no _ 427, .no _ 428, .no _ 429, .no _ 430, .no _ 431⟩,
  ⟨.no _ 432, .no _ 433, .no _ 434, .no _ 435, .no _ 436, .no _ 437, .no _ 438, .no _ 439, .no _ 440, .no _ 441, .no _ 442, .no _ 443, .no _ 444, .no _ 445, .no _ 446, .no _ 447⟩,
  ⟨.no _ 448, .no _ 449, .no _ 450, .no _ 451, .no _ 452, .no _ 453, .no _ 454, .no _ 455, .no _ 456, .no _ 457, .no _ 458, .no _ 459, .no _ 460, .no _ 461, .no _ 462, .no _ 463⟩,
  ⟨.no _ 464, .no _ 465, .no _ 466, .no _ 467, .no _ 468, .no _ 469, .no _ 470, .no _ 471, .no _ 472, .no _ 473, .no _ 474, .no _ 475, .no _ 476, .no _ 477, .no _ 478, .no _ 479⟩,
  ⟨.no _ 480, .no _ 481, .no _ 482, .no _ 483, .no _ 484, .no _ 485, .no _ 486, .no _ 487, .no _ 488, .no _ 489, .no _ 490, .no _ 491, .no _ 492, .no _ 493, .no _ 494, .no _ 495⟩,
  ⟨.no _ 496, .no _ 497, .no _ 498, .no _ 499, .no _ 500, .no _ 501, .no _ 502, .no _ 503, .no _ 504, .no _ 505, .no _ 506, .no _ 507, .no _ 508, .no _ 509, .no _ 510, .no _ 511⟩⟩)
theorem mixed : Tryz.prog.follows .mixedOrders = true := by kernel_rfl
theorem ins107 : InsText pK (107, 8, 46) := ⟨64, [(.int .i64 (0)), (.int .i64 (0)), (.int .i64 (0)), (.int .i64 (0)), (.int .i64 (0)), (.int .i64 (0)), (.int .i64 (0)), (.bool false)], 173, vf107, rfl, rfl, rfl, rfl, by decide⟩
theorem ins175 : InsText pK (175, 14, 48) := ⟨200, [(.int .i64 (0)), (.int .i64 (0)), (.str []), (.int .i64 (0)), (.int .i64 (0)), (.int .i64 (0)), (.int .i64 (0)), .nils, (.int .i64 (0)), (.int .i64 (0)), .nils, .nils, .nils, .nils], 220, vf175, rfl, rfl, rfl, rfl, by decide⟩
theorem ins179 : InsText pK (179, 8, 67) := ⟨64, [(.int .i64 (0)), (.int .i64 (0)), (.int .i64 (0)), (.int .i64 (0)), (.int .i64 (0)), (.int .i64 (0)), (.int .i64 (0)), (.int .i64 (0))], 223, vf179, rfl, rfl, rfl, rfl, by decide⟩
theorem ins302 : InsText pK (302, 9, 93) := ⟨72, [(.int .i64 (0)), (.int .i64 (0)), (.int .i64 (0)), (.int .i64 (0)), (.int .i64 (0)), (.int .i64 (0)), (.int .i64 (0)), (.bool false), (.int .i64 (0))], 343, vf302, rfl, rfl, rfl, rfl, by decide⟩
theorem insAll : ∀ B0, IOk Tryz.prog B0 (IK (insT insL)) := insT_ok hp mixed insL (fun q hq => by
  simp only [insL, List.mem_cons, List.mem_nil_iff, or_false] at hq
  rcases hq with rfl | rfl | rfl | rfl
  · exact ins107
  · exact ins175
  · exact ins179
  · exact ins302)
end Go.Proofs.YtoehnfohceihbaaGreatDoor
