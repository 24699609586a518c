/- The closure of a root, and what is in it. -/
import Derived.Test.YtgdbpnpolelfoaaGreatDoorClo
import Derived.KernelRfl
set_option linter.all false
namespace Go.TF
open Go Go.Proofs
set_option maxRecDepth 100000
def l3_0 : List Nat := [3, 6, 31, 68, 99, 100, 103, 80, 119, 154, 104, 102, 81, 101, 105, 36, 39, 69, 43, 38, 70, 40, 42, 32, 71, 106, 155, 156, 107, 157, 208, 313, 88, 130, 192, 294, 193, 295, 296, 194, 297, 26, 64, 422, 298, 299, 423, 424, 300, 94, 134, 98, 133, 145, 146, 203, 147, 209, 314, 158, 159, 160, 161, 163]
def l3_1 : List Nat := [164, 211, 315, 86, 129, 162, 210, 165, 166, 167, 168, 169, 213, 212, 316, 170, 214, 215, 317, 216, 218, 217, 318, 219, 220, 173, 222, 223, 319, 320, 321, 224, 322, 225, 323, 226, 171, 221, 172, 122, 182, 72, 108, 114, 178, 241, 373, 242, 374, 187, 246, 247, 377, 248, 249, 250, 378, 188, 290, 251, 379, 485, 559, 244]
def l3_2 : List Nat := [376, 380, 486, 483, 560, 561, 252, 381, 253, 382, 383, 396, 302, 254, 384, 255, 256, 257, 258, 385, 487, 488, 386, 259, 260, 261, 58, 262, 375, 480, 482, 558, 419, 515, 577, 599, 51, 387, 489, 57, 408, 409, 481, 411, 484, 415, 461, 545, 546, 588, 608, 399, 497, 445, 263, 264, 389, 490, 562, 492, 565, 491, 563, 591]
def l3_3 : List Nat := [564, 93, 143, 144, 592, 609, 610, 641, 611, 199, 200, 612, 642, 643, 661, 613, 614, 615, 616, 494, 493, 388, 265, 391, 390, 266, 393, 392, 495, 496, 536, 267, 394, 395, 268, 269, 397, 305, 427, 270, 398, 271, 400, 272, 401, 498, 402, 499, 566, 593, 617, 618, 644, 619, 645, 646, 620, 647, 648, 662, 621, 622, 623, 624]
def l3_4 : List Nat := [273, 403, 420, 274, 404, 275, 406, 501, 567, 568, 405, 500, 276, 407, 277, 278, 279, 280, 281, 410, 282, 283, 284, 285, 412, 502, 569, 185, 245, 413, 503, 504, 27, 65, 286, 287, 414, 505, 506, 288, 416, 507, 570, 571, 594, 625, 649, 663, 650, 626, 514, 598, 630, 652, 627, 628, 651, 597, 629, 595, 573, 596, 417, 508]
def l3_5 : List Nat := [509, 463, 510, 511, 512, 572, 574, 575, 517, 579, 602, 636, 657, 603, 637, 658, 664, 665, 669, 670, 666, 667, 671, 672, 673, 674, 604, 638, 659, 639, 660, 668, 605, 640, 606, 578, 600, 631, 653, 654, 601, 632, 655, 633, 634, 656, 635, 576, 513, 418, 421, 516, 289, 174, 227, 324, 325, 369, 326, 327, 328, 430, 366, 329]
def l3_6 : List Nat := [431, 526, 432, 527, 330, 433, 434, 438, 528, 331, 435, 332, 333, 334, 335, 436, 437, 448, 336, 337, 338, 439, 529, 530, 585, 531, 532, 533, 534, 339, 340, 440, 341, 342, 442, 443, 441, 535, 343, 344, 345, 444, 346, 446, 347, 447, 348, 349, 449, 450, 350, 351, 451, 352, 452, 537, 353, 354, 355, 356, 357, 453, 358, 359]
def l3_7 : List Nat := [454, 455, 538, 586, 291, 189, 368, 456, 539, 540, 587, 360, 361, 457, 362, 458, 541, 459, 542, 543, 544, 460, 462, 464, 363, 229, 231, 230, 365, 367, 465, 466, 547, 548, 589, 467, 549, 550, 590, 551, 468, 552, 469, 471, 470, 553, 472, 473, 475, 474, 554, 476, 555, 477, 556, 478, 557, 232, 228, 364, 109, 111, 177, 233]
def l3_8 : List Nat := [234, 370, 235, 236, 371, 372, 479, 237, 238, 239, 240, 74, 112, 175, 176, 73, 110, 75, 89, 131, 195, 301, 425, 426, 518, 519, 520, 580, 303, 304, 196, 132, 197, 306, 428, 521, 522, 524, 523, 525, 581, 582, 607, 583, 584, 429, 76, 113, 77, 115, 83, 125, 184, 183, 243, 186, 116, 179, 79, 118, 78, 117, 180, 54]
def l3_9 : List Nat := [92, 135, 66, 136, 198, 137, 138, 201, 202, 307, 139, 140, 141, 142, 33, 23, 61, 95, 148, 149, 204, 150, 205, 308, 151, 22, 34, 18, 46, 87, 90, 20, 56, 59, 8, 47, 10, 49, 91, 12, 35, 67, 21, 60, 37, 82, 121, 120, 181, 123, 124, 41, 44, 84, 16, 52, 53, 14, 7, 45, 85, 126, 190, 292]
def l3_10 : List Nat := [293, 128, 127, 191, 9, 24, 62, 96, 152, 153, 206, 309, 310, 311, 312, 207, 63, 97, 48, 11, 50, 13, 15, 17, 55, 19]
theorem closure3 : Tryz.prog.closure 3 = l3_0 ++ (l3_1 ++ (l3_2 ++ (l3_3 ++ (l3_4 ++ (l3_5 ++ (l3_6 ++ (l3_7 ++ (l3_8 ++ (l3_9 ++ (l3_10)))))))))) := Clo.closure_eq nt_ok steps (by kernel_rfl)
theorem ip3_0 : l3_0.filterMap (fun g => (Tryz.prog.funcs[g]?).bind fun fn => if fn.ours || fn.body.isNone || fn.name == "runtime.NumGoroutine" then some fn.name else none) = [] := by kernel_rfl
theorem gl3_0 : l3_0.flatMap (fun g => ((Tryz.prog.funcs[g]?).bind (·.body)).elim [] Code.globalsNamed) = [] := by kernel_rfl
theorem er3_0 : l3_0.filterMap (fun g => (Tryz.prog.funcs[g]?).bind fun fn => if fn.body.isNone then entryReads.lookup fn.name else none) = [] := by kernel_rfl
theorem ip3_1 : l3_1.filterMap (fun g => (Tryz.prog.funcs[g]?).bind fun fn => if fn.ours || fn.body.isNone || fn.name == "runtime.NumGoroutine" then some fn.name else none) = [] := by kernel_rfl
theorem gl3_1 : l3_1.flatMap (fun g => ((Tryz.prog.funcs[g]?).bind (·.body)).elim [] Code.globalsNamed) = [] := by kernel_rfl
theorem er3_1 : l3_1.filterMap (fun g => (Tryz.prog.funcs[g]?).bind fun fn => if fn.body.isNone then entryReads.lookup fn.name else none) = [] := by kernel_rfl
theorem ip3_2 : l3_2.filterMap (fun g => (Tryz.prog.funcs[g]?).bind fun fn => if fn.ours || fn.body.isNone || fn.name == "runtime.NumGoroutine" then some fn.name else none) = [] := by kernel_rfl
theorem gl3_2 : l3_2.flatMap (fun g => ((Tryz.prog.funcs[g]?).bind (·.body)).elim [] Code.globalsNamed) = [] := by kernel_rfl
theorem er3_2 : l3_2.filterMap (fun g => (Tryz.prog.funcs[g]?).bind fun fn => if fn.body.isNone then entryReads.lookup fn.name else none) = [] := by kernel_rfl
theorem ip3_3 : l3_3.filterMap (fun g => (Tryz.prog.funcs[g]?).bind fun fn => if fn.ours || fn.body.isNone || fn.name == "runtime.NumGoroutine" then some fn.name else none) = [] := by kernel_rfl
theorem gl3_3 : l3_3.flatMap (fun g => ((Tryz.prog.funcs[g]?).bind (·.body)).elim [] Code.globalsNamed) = [] := by kernel_rfl
theorem er3_3 : l3_3.filterMap (fun g => (Tryz.prog.funcs[g]?).bind fun fn => if fn.body.isNone then entryReads.lookup fn.name else none) = [] := by kernel_rfl
theorem ip3_4 : l3_4.filterMap (fun g => (Tryz.prog.funcs[g]?).bind fun fn => if fn.ours || fn.body.isNone || fn.name == "runtime.NumGoroutine" then some fn.name else none) = [] := by kernel_rfl
theorem gl3_4 : l3_4.flatMap (fun g => ((Tryz.prog.funcs[g]?).bind (·.body)).elim [] Code.globalsNamed) = [] := by kernel_rfl
theorem er3_4 : l3_4.filterMap (fun g => (Tryz.prog.funcs[g]?).bind fun fn => if fn.body.isNone then entryReads.lookup fn.name else none) = [] := by kernel_rfl
theorem ip3_5 : l3_5.filterMap (fun g => (Tryz.prog.funcs[g]?).bind fun fn => if fn.ours || fn.body.isNone || fn.name == "runtime.NumGoroutine" then some fn.name else none) = ["internal/abi.NoEscape", "internal/bytealg.MakeNoZero"] := by kernel_rfl
theorem gl3_5 : l3_5.flatMap (fun g => ((Tryz.prog.funcs[g]?).bind (·.body)).elim [] Code.globalsNamed) = [4, 5, 6, 2, 3] := by kernel_rfl
theorem er3_5 : l3_5.filterMap (fun g => (Tryz.prog.funcs[g]?).bind fun fn => if fn.body.isNone then entryReads.lookup fn.name else none) = [] := by kernel_rfl
theorem ip3_6 : l3_6.filterMap (fun g => (Tryz.prog.funcs[g]?).bind fun fn => if fn.ours || fn.body.isNone || fn.name == "runtime.NumGoroutine" then some fn.name else none) = [] := by kernel_rfl
theorem gl3_6 : l3_6.flatMap (fun g => ((Tryz.prog.funcs[g]?).bind (·.body)).elim [] Code.globalsNamed) = [] := by kernel_rfl
theorem er3_6 : l3_6.filterMap (fun g => (Tryz.prog.funcs[g]?).bind fun fn => if fn.body.isNone then entryReads.lookup fn.name else none) = [] := by kernel_rfl
theorem ip3_7 : l3_7.filterMap (fun g => (Tryz.prog.funcs[g]?).bind fun fn => if fn.ours || fn.body.isNone || fn.name == "runtime.NumGoroutine" then some fn.name else none) = [] := by kernel_rfl
theorem gl3_7 : l3_7.flatMap (fun g => ((Tryz.prog.funcs[g]?).bind (·.body)).elim [] Code.globalsNamed) = [] := by kernel_rfl
theorem er3_7 : l3_7.filterMap (fun g => (Tryz.prog.funcs[g]?).bind fun fn => if fn.body.isNone then entryReads.lookup fn.name else none) = [] := by kernel_rfl
theorem ip3_8 : l3_8.filterMap (fun g => (Tryz.prog.funcs[g]?).bind fun fn => if fn.ours || fn.body.isNone || fn.name == "runtime.NumGoroutine" then some fn.name else none) = [] := by kernel_rfl
theorem gl3_8 : l3_8.flatMap (fun g => ((Tryz.prog.funcs[g]?).bind (·.body)).elim [] Code.globalsNamed) = [1, 1] := by kernel_rfl
theorem er3_8 : l3_8.filterMap (fun g => (Tryz.prog.funcs[g]?).bind fun fn => if fn.body.isNone then entryReads.lookup fn.name else none) = [] := by kernel_rfl
theorem ip3_9 : l3_9.filterMap (fun g => (Tryz.prog.funcs[g]?).bind fun fn => if fn.ours || fn.body.isNone || fn.name == "runtime.NumGoroutine" then some fn.name else none) = ["internal/bytealg.abigen_runtime_cmpstring"] := by kernel_rfl
theorem gl3_9 : l3_9.flatMap (fun g => ((Tryz.prog.funcs[g]?).bind (·.body)).elim [] Code.globalsNamed) = [] := by kernel_rfl
theorem er3_9 : l3_9.filterMap (fun g => (Tryz.prog.funcs[g]?).bind fun fn => if fn.body.isNone then entryReads.lookup fn.name else none) = [] := by kernel_rfl
theorem ip3_10 : l3_10.filterMap (fun g => (Tryz.prog.funcs[g]?).bind fun fn => if fn.ours || fn.body.isNone || fn.name == "runtime.NumGoroutine" then some fn.name else none) = [] := by kernel_rfl
theorem gl3_10 : l3_10.flatMap (fun g => ((Tryz.prog.funcs[g]?).bind (·.body)).elim [] Code.globalsNamed) = [] := by kernel_rfl
theorem er3_10 : l3_10.filterMap (fun g => (Tryz.prog.funcs[g]?).bind fun fn => if fn.body.isNone then entryReads.lookup fn.name else none) = [] := by kernel_rfl
theorem inPlace3 : Tryz.prog.inPlace 3 = ["internal/abi.NoEscape", "internal/bytealg.MakeNoZero", "internal/bytealg.abigen_runtime_cmpstring"] := by
  unfold Program.inPlace
  rw [closure3]
  simp only [List.filterMap_append, ip3_0, ip3_1, ip3_2, ip3_3, ip3_4, ip3_5, ip3_6, ip3_7, ip3_8, ip3_9, ip3_10]
  rfl
theorem unf32 : (Tryz.prog.funcs[32]?).any (fun fn => match fn.body with | some c => c.unfollowed | none => entryCalls fn) = true := by kernel_rfl
theorem unfollowed3 : Tryz.prog.unfollowed 3 = true := by
  unfold Program.unfollowed
  rw [closure3]
  exact List.any_eq_true.2 ⟨32, by rw [← List.contains_iff_mem]; kernel_rfl, unf32⟩
theorem recurses3 : Tryz.prog.recurses 3 = true := by
  unfold Program.recurses
  rw [unfollowed3]
  rfl
theorem varsNamed3 : Tryz.prog.varsNamed 3 = ["internal/strconv.uint64pow10", "math/bits.deBruijn32tab", "math/bits.deBruijn64tab", "strconv.ErrSyntax", "strconv.ErrRange", "bytes.ErrTooLarge"] := by
  unfold Program.varsNamed
  rw [closure3]
  simp only [List.flatMap_append, List.filterMap_append, gl3_0, er3_0, gl3_1, er3_1, gl3_2, er3_2, gl3_3, er3_3, gl3_4, er3_4, gl3_5, er3_5, gl3_6, er3_6, gl3_7, er3_7, gl3_8, er3_8, gl3_9, er3_9, gl3_10, er3_10]
  kernel_rfl
end Go.TF
