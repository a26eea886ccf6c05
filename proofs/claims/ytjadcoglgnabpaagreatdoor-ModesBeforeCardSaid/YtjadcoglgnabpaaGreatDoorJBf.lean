/- The closed facts of a row, part by part. -/
import Derived.Test.YtjadcoglgnabpaaGreatDoorJl
import Derived.Test.YtjadcoglgnabpaaGreatDoorJo
import Derived.Test.YtjadcoglgnabpaaGreatDoorJn
import Derived.Test.YtjadcoglgnabpaaGreatDoorJg
import Derived.Test.YtjadcoglgnabpaaGreatDoorJw
import Derived.Test.YtjadcoglgnabpaaGreatDoorJr
import Derived.Test.YtjadcoglgnabpaaGreatDoorRows
import Derived.JoinedOf
namespace Go.Proofs.YtjadcoglgnabpaaGreatDoor
open Go Go.Abs
noncomputable section
set_option maxRecDepth 1000000
theorem bfAnd {a b : Bool} (h : a = true) (h2 : b = true) : (a && b) = true := by rw [h, h2]; rfl
def bfClo : List FuncId := [3, 5, 9, 8, 15, 30, 31, 16, 14, 23, 44, 45, 70, 24, 46, 71, 95, 118, 119, 141, 142, 143, 144, 156, 163, 172, 19, 37, 17, 32, 51, 77, 52, 78, 109, 130, 149, 131, 132, 133, 150, 53, 79, 54, 55, 80, 57, 81, 110, 134, 135, 111, 136, 151, 137, 152, 112, 113, 114, 56, 59, 83, 84, 85, 86, 87, 58, 82, 66, 67, 93, 65, 60, 33, 61, 88, 62, 89, 90, 91, 115, 92, 116, 138, 139, 153, 117, 140, 154, 155, 164, 63, 173, 193, 165, 174, 194, 195, 175, 196, 176, 177, 197, 198, 178, 199, 234, 235, 296, 297, 383, 480, 298, 236, 299, 384, 481, 482, 200, 237, 238, 239, 182, 206, 243, 315, 389, 407, 207, 244, 316, 245, 246, 183, 208, 248, 318, 308, 108, 309, 398, 319, 320, 408, 409, 498, 499, 317, 247, 201, 202, 240, 300, 385, 483, 577, 578, 493, 579, 484, 485, 487, 486, 488, 489, 392, 391, 393, 492, 399, 397, 580, 490, 491, 312, 402, 497, 401, 403, 581, 404, 386, 494, 495, 582, 166, 179, 203, 180, 204, 181, 205, 241, 301, 302, 303, 387, 388, 304, 305, 306, 390, 394, 395, 396, 307, 310, 400, 496, 311, 313, 405, 406, 242, 314, 157, 167, 168, 184, 158, 159, 160, 96, 120, 121, 10, 25, 47, 72, 97, 122, 145, 123, 146, 161, 162, 169, 185, 209, 249, 321, 250, 322, 410, 210, 211, 252, 251, 323, 186, 187, 212, 253, 254, 213, 218, 260, 261, 331, 332, 334, 333, 335, 336, 415, 416, 501, 502, 584, 585, 586, 684, 587, 503, 590, 591, 589, 687, 588, 685, 686, 417, 504, 337, 338, 418, 505, 419, 506, 507, 420, 508, 339, 340, 341, 421, 34, 509, 64, 422, 36, 380, 18, 35, 342, 423, 424, 510, 592, 511, 425, 512, 255, 256, 325, 326, 379, 412, 382, 479, 413, 500, 583, 324, 411, 257, 327, 414, 328, 329, 188, 214, 258, 330, 189, 215, 217, 216, 259, 219, 220, 262, 170, 191, 192, 224, 264, 265, 343, 426, 266, 226, 277, 267, 280, 268, 281, 344, 427, 289, 370, 467, 468, 283, 364, 371, 372, 373, 469, 434, 523, 602, 513, 221, 514, 593, 674, 368, 292, 378, 478, 566, 567, 568, 569, 570, 571, 572, 573, 574, 576, 575, 369, 466, 556, 681, 745, 11, 557, 558, 559, 682, 683, 428, 516, 515, 293, 429, 517, 430, 431, 518, 432, 287, 366, 76, 107, 465, 548, 549, 678, 550, 126, 127, 551, 679, 680, 744, 552, 553, 554, 555, 367, 74, 98, 73, 519, 594, 520, 433, 521, 294, 522, 595, 599, 600, 692, 381, 688, 746, 793, 794, 828, 829, 864, 865, 764, 596, 689, 597, 598, 690, 691, 601, 269, 270, 345, 435, 436, 437, 438, 524, 346, 231, 286, 365, 288, 271, 347, 440, 439, 348, 441, 525, 603, 693, 707, 702, 604, 694, 747, 795, 605, 606, 695, 607, 696, 709, 703, 697, 748, 749, 796, 608, 698, 609, 699, 610, 700, 701, 545, 675, 611, 612, 704, 750, 797, 798, 751, 800, 801, 830, 866, 867, 888, 887, 901, 890, 889, 902, 906, 907, 916, 908, 909, 917, 918, 919, 910, 911, 912, 913, 868, 832, 831, 833, 799, 526, 613, 614, 615, 616, 617, 527, 618, 705, 706, 619, 708, 620, 710, 721, 621, 711, 622, 712, 623, 624, 625, 626, 713, 627, 714, 628, 715, 752, 629, 528, 630, 716, 753, 802, 835, 836, 834, 869, 803, 804, 837, 838, 870, 891, 892, 893, 903, 894, 839, 904, 895, 871, 896, 897, 805, 806, 840, 872, 841, 717, 754, 718, 755, 807, 842, 843, 873, 875, 877, 876, 899, 874, 898, 631, 719, 756, 757, 808, 809, 759, 760, 758, 632, 722, 720, 633, 723, 761, 529, 634, 635, 636, 724, 762, 810, 811, 812, 813, 814, 763, 637, 725, 765, 767, 816, 766, 815, 768, 817, 769, 818, 844, 822, 845, 770, 819, 771, 772, 820, 353, 452, 638, 726, 773, 821, 774, 775, 530, 639, 727, 728, 729, 640, 641, 531, 642, 730, 731, 643, 644, 645, 732, 646, 733, 776, 777, 778, 823, 824, 846, 847, 878, 848, 879, 880, 885, 886, 884, 849, 850, 881, 882, 883, 900, 905, 914, 915, 857, 851, 852, 853, 854, 855, 856, 858, 859, 860, 861, 825, 862, 532, 647, 734, 648, 649, 650, 651, 533, 652, 653, 654, 374, 470, 560, 471, 562, 561, 655, 736, 672, 779, 791, 735, 656, 737, 780, 657, 658, 738, 781, 782, 783, 171, 784, 785, 786, 787, 534, 659, 660, 375, 472, 661, 739, 673, 788, 826, 827, 863, 741, 662, 663, 740, 789, 664, 665, 666, 742, 790, 667, 743, 792, 349, 442, 535, 536, 350, 443, 274, 275, 354, 355, 356, 276, 361, 456, 272, 457, 376, 473, 474, 563, 540, 541, 477, 564, 565, 377, 475, 476, 542, 668, 669, 670, 671, 360, 455, 357, 453, 223, 362, 458, 543, 363, 459, 460, 461, 462, 544, 546, 463, 547, 677, 676, 464, 290, 190, 222, 263, 358, 359, 454, 537, 444, 445, 446, 447, 538, 448, 539, 449, 450, 273, 351, 451, 352, 225, 227, 228, 278, 229, 279, 230, 282, 284, 285, 232, 233, 291, 295, 124, 147, 48, 49, 75, 99, 100, 125, 101, 102, 128, 129, 148, 103, 104, 105, 106, 27, 26, 50, 29, 28, 6, 7, 12, 20, 38, 40, 39, 41, 43, 68, 69, 94, 21, 13, 22, 42]
theorem bfClo_eq : Tryz.prog.closure 3 = bfClo := by rw [closure_eq leads_eq]; kernel_rfl
theorem bfCloP : Tryz.pinned.checked.prog.closure 3 = bfClo := bfClo_eq
theorem bfJ0 : (Rows.modesBeforeRow.wf (OpenSpec.ofChange Rows.modesBeforeSpec)) = true := by kernel_rfl
theorem bfJ1 : laidOutB Tryz.pinned.checked.prog = true := laidOut_eq
theorem bfJ2 : mapsRowed Tryz.pinned.checked.prog = true := rowed_eq
theorem bfJ3 : (Tryz.f3.params.all (Tryz.pinned.checked.prog.readableRec ·)) = true := by kernel_rfl
theorem bfJ4 : (namedTie Tryz.pinned.checked.prog Rows.modesBeforeRow.named Rows.modesBeforeSpec.vars) = true := by kernel_rfl
theorem bfJ5 : ((Rows.modesBeforeRow.stops == [])) = true := by kernel_rfl
theorem bfJ6 : ((Tryz.pinned.checked.prog.stops == [])) = true := by kernel_rfl
theorem bfJ7 : ((Rows.modesBeforeRow.knobs == [])) = true := by kernel_rfl
theorem bfJ8 : ((Tryz.pinned.checked.prog.stopKnobs == [])) = true := by kernel_rfl
theorem bfJ9 : (Rows.modesBeforeRow.inPlace == Tryz.pinned.checked.prog.inPlace 3) = true := beq_of (inPlace_eq bfCloP in_eq) (by kernel_rfl)
theorem bfJ10 : (Rows.modesBeforeRow.unfollowed == Tryz.pinned.checked.prog.unfollowed 3) = true := by
  unfold Program.unfollowed; rw [bfCloP]; kernel_rfl
theorem bfJ11 : (Rows.modesBeforeRow.recurses == Tryz.pinned.checked.prog.recurses 3) = true := by
  unfold Program.recurses Program.unfollowed; rw [bfCloP]; kernel_rfl
theorem bfJ12 : (Rows.modesBeforeRow.named == Tryz.pinned.checked.prog.varsNamed 3) = true := beq_of (varsNamed_eq bfCloP gl_eq er_eq) (by kernel_rfl)
theorem bfJ13 : ((Rows.modesBeforeRow.maps == (Tryz.f3.params.toList ++ Rows.modesBeforeSpec.plain.varTypes Tryz.pinned.checked.prog).any (Tryz.pinned.checked.prog.mapsRec ·))) = true := by kernel_rfl
theorem bfJ14 : ((Rows.modesBeforeRow.ifaces == (Tryz.f3.params.toList ++ Rows.modesBeforeSpec.plain.varTypes Tryz.pinned.checked.prog).any (Tryz.pinned.checked.prog.ifacesRec ·))) = true := by kernel_rfl
theorem bfJ15 : ((Rows.modesBeforeRow.mapsOut == Tryz.pinned.checked.prog.mapsAmong Tryz.f3.resultTypes.toList)) = true := by kernel_rfl
theorem bfJ16 : ((Rows.modesBeforeRow.loops == (Tryz.f3.params.toList ++ Rows.modesBeforeSpec.plain.varTypes Tryz.pinned.checked.prog).any (Tryz.pinned.checked.prog.loopsFrom ·))) = true := by kernel_rfl
theorem bfJ17 : ((Rows.modesBeforeRow.wideKeys == (Tryz.f3.params.toList ++ Rows.modesBeforeSpec.plain.varTypes Tryz.pinned.checked.prog ++ Tryz.f3.resultTypes.toList).any (Tryz.pinned.checked.prog.wideKeysFrom ·))) = true := by kernel_rfl
theorem bfJ18 : (Rows.modesBeforeSpec.vars.all (Tryz.pinned.checked.prog.varReadable ·)) = true := by kernel_rfl
theorem bfJ19 : (Tryz.f3.resultTypes.all (fun t => Tryz.pinned.checked.prog.readableRec t && decide (t < Tryz.pinned.checked.prog.types.size))) = true := by kernel_rfl
theorem bfJ20 : ((Rows.modesBeforeRow.ifacesOut == Tryz.f3.resultTypes.toList.any (Tryz.pinned.checked.prog.ifacesRec ·))) = true := by kernel_rfl
theorem bfJ21 : ((Rows.modesBeforeRow.loopsOut == Tryz.f3.resultTypes.toList.any (Tryz.pinned.checked.prog.loopsFrom ·))) = true := by kernel_rfl
theorem bfJ22 : ((Rows.modesBeforeRow.plainKeys == Tryz.pinned.checked.prog.plainKeys)) = true := by kernel_rfl
theorem bfJ23 : (Rows.modesBeforeRow.shortTexts.isNone) = true := by kernel_rfl
theorem bfJ24 : Tryz.pinned.checked.prog.stopsHeard = true := stops_eq
theorem bfJ25 : Tryz.pinned.checked.prog.mayEnter = true := may_eq
theorem bfJ26 : ((Rows.modesBeforeRow.lifted == Tryz.pinned.checked.prog.liftsFinal)) = true := by kernel_rfl
theorem bfJ27 : ((Tryz.pinned.checked.prog.make == some Rows.modesBeforeRow.make)) = true := by kernel_rfl
theorem bfJ28 : ((Rows.modesBeforeRow.kinds == (if Rows.modesBeforeRow.domain.isEmpty then [] else Tryz.f3.params.toList.map fun t => match Tryz.pinned.checked.prog.underlying t with | some (.int k) => some k | _ => none))) = true := by kernel_rfl
theorem bfJ29 : ((Rows.modesBeforeRow.pinned == Rows.modesBeforeRow.pinnedBy)) = true := by kernel_rfl
theorem bfJ30 : ((Rows.modesBeforeRow.veiled == (Tryz.f3.params.toList ++ Rows.modesBeforeSpec.plain.varTypes Tryz.pinned.checked.prog ++ Tryz.f3.resultTypes.toList).any (Tryz.pinned.checked.prog.veiledRec ·))) = true := by kernel_rfl
theorem bfJ31 : (Rows.modesBeforeRow.veiledFits Tryz.pinned.checked.prog Tryz.f3.params.toList (Tryz.f3.params.toList ++ Rows.modesBeforeSpec.plain.varTypes Tryz.pinned.checked.prog ++ Tryz.f3.resultTypes.toList)) = true := by kernel_rfl
theorem bfJoined : joinedFacts Tryz.pinned.checked.prog 3 Tryz.f3 Rows.modesBeforeSpec Rows.modesBeforeRow = true := (bfAnd (bfAnd (bfAnd (bfAnd (bfAnd (bfAnd (bfAnd (bfAnd (bfAnd (bfAnd (bfAnd (bfAnd (bfAnd (bfAnd (bfAnd (bfAnd (bfAnd (bfAnd (bfAnd (bfAnd (bfAnd (bfAnd (bfAnd (bfAnd (bfAnd (bfAnd (bfAnd (bfAnd (bfAnd (bfAnd (bfAnd bfJ0 bfJ1) bfJ2) bfJ3) bfJ4) bfJ5) bfJ6) bfJ7) bfJ8) bfJ9) bfJ10) bfJ11) bfJ12) bfJ13) bfJ14) bfJ15) bfJ16) bfJ17) bfJ18) bfJ19) bfJ20) bfJ21) bfJ22) bfJ23) bfJ24) bfJ25) bfJ26) bfJ27) bfJ28) bfJ29) bfJ30) bfJ31)
end
end Go.Proofs.YtjadcoglgnabpaaGreatDoor
