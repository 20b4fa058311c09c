/-
  The closed facts of the row of NodeTimes. Part of the proof of the claim: for every input the law returns true.
-/
import Derived.Test.YtljhcadbocakpaaGreatDoorRows
import Derived.Test.YtljhcadbocakpaaGreatDoorCards
import Derived.Test.YtljhcadbocakpaaGreatDoorTie
import Derived.ProofKit
import Derived.Lib.SmallJoins
import Derived.LaidMore
import Derived.OpenShut
import Derived.Lay
import Derived.LaidOnce
import Derived.SevenTiedAt
namespace Go.Proofs.YtljhcadbocakpaaGreatDoor
open Go
theorem Tryz.own : ownKnob Tryz.prog.godebug = none := by kernel_rfl
theorem Tryz.laidOut : laidOutB Tryz.prog = true := by kernel_rfl
/-- the functions that NodeTimes can come to. -/
def cloN : List FuncId := [3, 4, 5, 8, 17, 37, 16, 18, 38, 101, 39, 40, 41, 102, 108, 103, 204, 295, 387, 205, 104, 42, 43, 44, 45, 105, 161, 214, 273, 162, 206, 110, 207, 296, 297, 208, 298, 209, 211, 300, 299, 388, 111, 210, 112, 213, 212, 106, 107, 190, 109, 25, 61, 88, 19, 46, 47, 113, 114, 115, 215, 216, 264, 20, 48, 116, 49, 117, 50, 51, 118, 119, 52, 53, 120, 77, 121, 217, 221, 301, 389, 265, 356, 355, 357, 359, 434, 358, 361, 437, 468, 435, 466, 436, 467, 494, 505, 516, 495, 496, 497, 360, 218, 302, 390, 330, 391, 392, 328, 410, 428, 411, 220, 304, 394, 275, 368, 439, 369, 291, 384, 385, 440, 469, 475, 292, 470, 498, 471, 447, 448, 472, 499, 500, 506, 473, 474, 476, 477, 219, 303, 344, 393, 406, 452, 253, 345, 429, 122, 169, 170, 171, 278, 277, 364, 279, 371, 280, 372, 441, 306, 395, 308, 396, 250, 343, 201, 438, 268, 397, 314, 249, 342, 427, 463, 489, 488, 200, 490, 491, 504, 508, 509, 517, 510, 511, 518, 519, 520, 512, 513, 514, 515, 492, 199, 493, 464, 341, 425, 462, 480, 481, 501, 482, 483, 502, 503, 507, 484, 485, 486, 487, 426, 402, 222, 305, 307, 223, 21, 54, 22, 60, 125, 55, 123, 56, 124, 57, 58, 59, 13, 7, 23, 24, 26, 27, 62, 126, 63, 127, 129, 224, 309, 310, 399, 398, 248, 340, 226, 312, 225, 191, 311, 246, 339, 401, 453, 257, 400, 258, 85, 140, 72, 154, 73, 80, 163, 164, 133, 189, 227, 313, 128, 228, 315, 403, 316, 317, 332, 229, 318, 404, 87, 64, 134, 244, 337, 417, 418, 419, 420, 421, 455, 456, 457, 458, 459, 423, 245, 338, 422, 424, 460, 461, 130, 230, 319, 97, 231, 232, 320, 194, 405, 289, 414, 348, 416, 196, 321, 335, 334, 333, 415, 233, 131, 234, 322, 323, 235, 236, 132, 89, 237, 324, 407, 454, 238, 239, 240, 36, 93, 195, 288, 197, 290, 293, 377, 446, 378, 379, 449, 450, 479, 380, 381, 382, 383, 198, 94, 96, 95, 92, 193, 98, 202, 294, 386, 451, 99, 100, 203, 325, 241, 136, 254, 346, 430, 465, 347, 327, 326, 408, 409, 242, 329, 412, 331, 413, 243, 336, 65, 135, 247, 251, 252, 137, 255, 138, 256, 10, 34, 9, 28, 66, 67, 145, 146, 147, 263, 152, 148, 79, 176, 177, 178, 179, 139, 68, 149, 266, 180, 267, 81, 82, 150, 151, 141, 142, 143, 69, 144, 259, 349, 431, 350, 86, 187, 287, 188, 260, 261, 262, 351, 352, 353, 432, 354, 433, 71, 160, 91, 70, 74, 165, 153, 155, 156, 76, 157, 158, 269, 362, 363, 159, 172, 281, 373, 282, 173, 283, 374, 442, 375, 443, 478, 444, 174, 270, 271, 365, 366, 272, 367, 78, 175, 284, 376, 445, 29, 31, 30, 75, 167, 276, 370, 168, 166, 274, 32, 33, 83, 181, 182, 183, 285, 186, 286, 184, 185, 84, 90, 192, 14, 35, 12, 15, 6, 11]
theorem c_clo : Tryz.prog.closure 3 = cloN := by kernel_rfl
theorem c_inPlace : (Rows.nodeTimesRow.inPlace == Tryz.prog.inPlace 3) = true := by
  unfold Program.inPlace
  rw [c_clo]
  kernel_rfl
theorem c_unfollowed' : Tryz.prog.unfollowed 3 = true := by
  unfold Program.unfollowed
  rw [c_clo]
  kernel_rfl
theorem c_unfollowed : (Rows.nodeTimesRow.unfollowed == Tryz.prog.unfollowed 3) = true := by rw [c_unfollowed']; rfl
theorem c_recurses : (Rows.nodeTimesRow.recurses == Tryz.prog.recurses 3) = true := by
  unfold Program.recurses
  rw [c_unfollowed']
  rfl
theorem c_named : (Rows.nodeTimesRow.named == Tryz.prog.varsNamed 3) = true := by
  unfold Program.varsNamed
  rw [c_clo]
  kernel_rfl
end Go.Proofs.YtljhcadbocakpaaGreatDoor

