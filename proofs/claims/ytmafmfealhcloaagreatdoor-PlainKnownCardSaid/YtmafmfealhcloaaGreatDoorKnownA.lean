/-
  THE CLOSED FACTS OF THE ROW of PlainKnown, each a theorem of its own.
-/
import Derived.Test.YtmafmfealhcloaaGreatDoorFacts
import Derived.ProofKit
import Derived.OpenShut
import Derived.Stop.Joined
import Derived.SevenTiedAt
namespace Go.Proofs.YtmafmfealhcloaaGreatDoor
open Go
set_option maxRecDepth 100000
theorem kcl : PP.closure 3 = [3, 13, 15, 31, 30, 46, 63, 64, 86, 47, 55, 40, 48, 66, 65, 49, 50, 67, 87, 119, 163, 120, 118, 164, 251, 252, 339, 404, 253, 340, 254, 255, 165, 256, 257, 258, 51, 68, 69, 16, 32, 52, 70, 88, 121, 89, 91, 92, 125, 167, 169, 106, 148, 242, 336, 335, 402, 477, 403, 209, 201, 292, 293, 294, 243, 337, 260, 208, 200, 291, 264, 109, 150, 341, 204, 297, 356, 130, 261, 342, 263, 344, 345, 405, 199, 290, 362, 478, 406, 244, 265, 407, 480, 479, 524, 547, 482, 408, 481, 409, 410, 276, 354, 411, 412, 413, 483, 484, 414, 415, 485, 525, 416, 486, 417, 418, 487, 526, 527, 110, 419, 420, 488, 421, 422, 489, 423, 424, 490, 425, 262, 343, 149, 93, 128, 107, 126, 129, 168, 170, 171, 266, 311, 346, 57, 426, 347, 331, 397, 398, 117, 82, 202, 295, 363, 431, 364, 296, 56, 78, 365, 312, 267, 274, 268, 269, 349, 348, 211, 270, 350, 300, 271, 351, 281, 352, 272, 353, 273, 282, 127, 172, 173, 275, 174, 175, 176, 177, 178, 278, 277, 179, 180, 181, 182, 183, 205, 60, 298, 366, 432, 493, 494, 279, 280, 355, 427, 184, 185, 210, 301, 186, 187, 283, 188, 285, 286, 358, 429, 284, 357, 428, 189, 287, 288, 36, 359, 84, 85, 190, 289, 360, 361, 430, 491, 492, 528, 191, 136, 192, 193, 194, 195, 196, 197, 198, 105, 147, 90, 122, 166, 259, 123, 124, 95, 94, 71, 96, 97, 98, 131, 132, 99, 100, 133, 134, 203, 72, 101, 135, 137, 138, 206, 299, 207, 139, 140, 212, 73, 102, 103, 104, 141, 142, 213, 214, 302, 367, 368, 303, 306, 369, 433, 434, 370, 305, 304, 143, 144, 215, 216, 217, 218, 219, 307, 220, 308, 371, 435, 495, 436, 390, 372, 373, 374, 375, 437, 496, 438, 439, 497, 529, 440, 376, 441, 498, 530, 531, 229, 221, 222, 223, 224, 225, 309, 241, 37, 310, 54, 75, 108, 76, 77, 111, 112, 113, 151, 35, 334, 401, 476, 240, 226, 313, 377, 227, 228, 230, 314, 378, 379, 315, 316, 380, 442, 499, 500, 162, 532, 533, 501, 502, 534, 535, 548, 549, 231, 232, 317, 381, 443, 503, 536, 550, 318, 319, 382, 320, 321, 384, 451, 450, 452, 454, 510, 453, 456, 512, 540, 511, 539, 554, 555, 455, 383, 444, 504, 445, 446, 505, 508, 447, 506, 537, 551, 564, 580, 507, 448, 449, 509, 538, 552, 565, 581, 582, 575, 583, 566, 545, 546, 567, 569, 568, 570, 571, 584, 585, 586, 574, 587, 589, 588, 572, 573, 590, 593, 596, 597, 594, 591, 595, 553, 576, 577, 592, 400, 472, 522, 473, 474, 523, 475, 328, 391, 460, 461, 392, 393, 462, 463, 514, 394, 395, 464, 515, 516, 542, 543, 465, 517, 467, 518, 466, 323, 322, 385, 324, 386, 387, 388, 457, 326, 325, 389, 458, 459, 513, 541, 327, 233, 234, 329, 235, 330, 396, 468, 469, 519, 544, 520, 470, 557, 556, 558, 578, 560, 579, 559, 561, 562, 563, 236, 237, 332, 238, 333, 399, 471, 521, 239, 145, 146, 74, 20, 18, 38, 59, 81, 58, 79, 114, 80, 116, 161, 115, 152, 158, 250, 153, 245, 154, 246, 247, 155, 248, 249, 338, 156, 157, 159, 160, 39, 14] := by kernel_rfl
theorem kun : PP.unfollowed 3 = true := by unfold Program.unfollowed; rw [kcl]; kernel_rfl
theorem kf10 : (Rows.plainKnownRow.inPlace == PP.inPlace 3) = true := by unfold Program.inPlace; rw [kcl]; kernel_rfl
theorem kf11 : (Rows.plainKnownRow.unfollowed == PP.unfollowed 3) = true := by rw [kun]; rfl
theorem kf12 : (Rows.plainKnownRow.recurses == PP.recurses 3) = true := by unfold Program.recurses; rw [kun]; rfl
theorem kf13 : (Rows.plainKnownRow.named == PP.varsNamed 3) = true := by unfold Program.varsNamed; rw [kcl]; kernel_rfl
theorem kfunc : PP.funcNamed Rows.plainKnownRow.func = some 3 := by kernel_rfl
theorem kgo3 : PP.goes 3 = false := by
  unfold Program.goes
  rw [kcl, kun, jgo]
  kernel_rfl
theorem kgoes : false = Rows.plainKnownRow.goesBy PP := by
  unfold OpenClaim.goesBy Program.goesAt Program.goesFrom
  rw [kfunc, Option.any_some, kgo3]
  kernel_rfl
theorem kf1 : Rows.plainKnownRow.wf (OpenSpec.ofChange Rows.plainKnownSpec) = true := by kernel_rfl
theorem kf5 : namedTie PP Rows.plainKnownRow.named Rows.plainKnownSpec.vars = true := by kernel_rfl
theorem kf20 : (Tryz.f3.resultTypes.all (fun t => PP.readableRec t && decide (t < PP.types.size))) = true := by kernel_rfl
theorem kf31 : (Rows.plainKnownRow.veiled == (Tryz.f3.params.toList ++ Rows.plainKnownSpec.plain.varTypes PP ++ Tryz.f3.resultTypes.toList).any (PP.veiledRec ·)) = true := by kernel_rfl
theorem kf32 : Rows.plainKnownRow.veiledFits PP Tryz.f3.params.toList (Tryz.f3.params.toList ++ Rows.plainKnownSpec.plain.varTypes PP ++ Tryz.f3.resultTypes.toList) = true := by kernel_rfl
theorem kwfT : Rows.plainKnownRow.wfByText (OpenSpec.ofChange Rows.plainKnownSpec) = true := by kernel_rfl
theorem kjoined : joinedFacts PP 3 Tryz.f3 Rows.plainKnownSpec Rows.plainKnownRow = true := by
  unfold joinedFacts
  exact andT (andT (andT (andT (andT (andT (andT (andT (andT (andT (andT (andT (andT (andT (andT (andT (andT (andT (andT (andT (andT (andT (andT (andT (andT (andT (andT (andT (andT (andT (andT kf1 jf2) jf3) (by kernel_rfl)) kf5) (by kernel_rfl)) jf7) (by kernel_rfl)) jf9) kf10) kf11) kf12) kf13) (by kernel_rfl)) (by kernel_rfl)) (by kernel_rfl)) (by kernel_rfl)) (by kernel_rfl)) (by kernel_rfl)) kf20) (by kernel_rfl)) (by kernel_rfl)) jf22) (by kernel_rfl)) jf23) jf24) jf25) jf26) (by kernel_rfl)) (by kernel_rfl)) kf31) kf32
end Go.Proofs.YtmafmfealhcloaaGreatDoor
