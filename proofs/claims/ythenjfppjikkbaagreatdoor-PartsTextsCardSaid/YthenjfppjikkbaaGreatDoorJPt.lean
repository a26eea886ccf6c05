/- The closed facts of a row, part by part. -/
import Derived.Test.YthenjfppjikkbaaGreatDoorJl
import Derived.Test.YthenjfppjikkbaaGreatDoorJo
import Derived.Test.YthenjfppjikkbaaGreatDoorJn
import Derived.Test.YthenjfppjikkbaaGreatDoorJg
import Derived.Test.YthenjfppjikkbaaGreatDoorJw
import Derived.Test.YthenjfppjikkbaaGreatDoorJr
import Derived.Test.YthenjfppjikkbaaGreatDoorRows
import Derived.JoinedOf
namespace Go.Proofs.YthenjfppjikkbaaGreatDoor
open Go Go.Abs
noncomputable section
set_option maxRecDepth 1000000
theorem ptAnd {a b : Bool} (h : a = true) (h2 : b = true) : (a && b) = true := by rw [h, h2]; rfl
def ptClo : List FuncId := [3, 4, 5, 7, 15, 16, 31, 10, 11, 12, 26, 39, 13, 27, 28, 40, 64, 29, 41, 65, 102, 103, 104, 105, 163, 25, 164, 236, 233, 323, 237, 71, 115, 116, 174, 234, 324, 325, 326, 432, 117, 175, 165, 238, 239, 37, 42, 43, 66, 106, 107, 108, 109, 111, 68, 166, 240, 67, 110, 167, 241, 331, 438, 555, 554, 556, 439, 221, 682, 147, 150, 683, 773, 837, 171, 247, 338, 442, 339, 340, 341, 219, 306, 415, 539, 424, 425, 307, 426, 308, 309, 413, 412, 310, 170, 232, 322, 431, 21, 245, 334, 335, 440, 558, 336, 246, 337, 441, 559, 560, 348, 452, 453, 454, 570, 290, 398, 514, 665, 750, 751, 399, 515, 666, 516, 517, 100, 162, 235, 327, 328, 434, 433, 435, 329, 330, 436, 437, 552, 553, 667, 518, 406, 522, 523, 524, 668, 752, 427, 549, 669, 753, 822, 873, 874, 832, 875, 823, 824, 826, 825, 827, 828, 759, 758, 760, 690, 831, 765, 764, 876, 829, 830, 679, 768, 836, 767, 769, 877, 770, 754, 833, 834, 878, 220, 311, 428, 312, 429, 313, 430, 550, 670, 671, 672, 755, 756, 673, 674, 675, 757, 761, 762, 763, 676, 677, 766, 835, 678, 680, 771, 772, 551, 681, 95, 158, 217, 303, 414, 538, 416, 417, 540, 419, 447, 569, 689, 24, 418, 421, 543, 544, 545, 546, 547, 420, 461, 541, 571, 691, 542, 422, 304, 423, 548, 411, 332, 774, 839, 838, 879, 880, 881, 684, 557, 242, 243, 333, 168, 44, 45, 14, 30, 8, 18, 19, 34, 54, 84, 85, 86, 87, 146, 218, 305, 148, 149, 32, 46, 69, 112, 169, 244, 113, 114, 173, 172, 248, 70, 49, 77, 137, 138, 78, 122, 177, 178, 249, 250, 252, 251, 253, 254, 342, 343, 443, 444, 561, 562, 563, 685, 564, 445, 567, 568, 566, 688, 565, 686, 687, 344, 446, 255, 256, 345, 448, 346, 449, 450, 347, 451, 257, 258, 259, 349, 455, 456, 457, 350, 458, 296, 408, 536, 260, 351, 352, 459, 572, 460, 353, 462, 139, 140, 211, 212, 295, 300, 298, 409, 301, 410, 537, 210, 299, 141, 213, 302, 214, 215, 72, 118, 159, 160, 73, 119, 121, 120, 176, 123, 81, 143, 47, 75, 76, 127, 180, 181, 261, 354, 182, 129, 193, 183, 196, 184, 197, 262, 355, 33, 50, 80, 82, 79, 142, 51, 52, 53, 83, 144, 145, 216, 463, 124, 464, 573, 653, 287, 206, 294, 407, 525, 526, 527, 528, 529, 530, 531, 532, 533, 535, 534, 288, 395, 507, 662, 749, 469, 508, 509, 510, 663, 664, 356, 466, 465, 207, 357, 467, 358, 359, 468, 360, 202, 283, 393, 506, 392, 498, 499, 657, 500, 658, 659, 501, 660, 661, 748, 502, 503, 504, 505, 284, 286, 394, 285, 470, 574, 471, 361, 472, 208, 473, 575, 579, 580, 696, 297, 692, 775, 840, 841, 882, 883, 917, 918, 793, 576, 693, 577, 578, 694, 695, 581, 185, 186, 263, 362, 363, 364, 365, 474, 264, 134, 201, 282, 203, 187, 265, 367, 366, 266, 368, 475, 582, 697, 711, 706, 583, 698, 776, 842, 584, 585, 699, 586, 700, 713, 707, 701, 777, 778, 843, 587, 702, 588, 703, 589, 704, 705, 495, 654, 590, 591, 708, 779, 844, 845, 780, 847, 848, 884, 919, 920, 941, 940, 954, 943, 942, 955, 959, 960, 969, 961, 962, 970, 971, 972, 963, 964, 965, 966, 921, 886, 885, 887, 846, 476, 592, 593, 594, 595, 596, 477, 597, 709, 710, 598, 712, 599, 714, 725, 600, 715, 601, 716, 602, 603, 604, 605, 717, 606, 718, 607, 719, 781, 608, 478, 609, 720, 782, 849, 889, 890, 888, 922, 850, 851, 891, 892, 923, 944, 945, 946, 956, 947, 893, 957, 948, 924, 949, 950, 852, 853, 894, 925, 895, 721, 783, 722, 784, 854, 896, 897, 926, 928, 930, 929, 952, 927, 951, 610, 723, 785, 786, 855, 788, 789, 787, 611, 726, 724, 612, 727, 790, 479, 613, 614, 615, 728, 791, 856, 857, 858, 859, 860, 792, 616, 729, 794, 796, 862, 795, 861, 797, 863, 798, 864, 898, 231, 321, 799, 865, 800, 801, 866, 271, 379, 617, 730, 802, 867, 803, 804, 480, 618, 731, 732, 733, 619, 620, 481, 621, 734, 735, 622, 623, 624, 736, 625, 737, 805, 806, 807, 868, 869, 899, 900, 931, 901, 932, 933, 938, 939, 937, 902, 903, 934, 935, 936, 953, 958, 967, 968, 910, 904, 905, 906, 907, 908, 909, 911, 912, 913, 914, 870, 915, 482, 626, 738, 627, 628, 629, 630, 483, 631, 632, 633, 289, 396, 511, 397, 513, 512, 634, 740, 651, 808, 820, 739, 635, 741, 809, 636, 637, 742, 810, 811, 812, 48, 813, 814, 815, 816, 484, 638, 639, 291, 400, 640, 743, 652, 817, 871, 872, 916, 745, 641, 642, 744, 818, 643, 644, 645, 746, 819, 646, 747, 821, 267, 369, 485, 486, 268, 370, 190, 191, 272, 273, 274, 192, 279, 383, 188, 384, 292, 401, 402, 519, 490, 491, 405, 520, 521, 293, 403, 404, 492, 647, 648, 649, 650, 278, 382, 275, 380, 126, 280, 385, 493, 281, 386, 387, 388, 389, 494, 496, 390, 497, 656, 655, 391, 204, 74, 125, 179, 276, 277, 381, 487, 371, 372, 373, 374, 488, 375, 489, 376, 377, 189, 269, 378, 270, 128, 130, 131, 194, 132, 195, 133, 198, 199, 200, 135, 136, 205, 209, 17, 9, 20, 22, 36, 57, 92, 155, 230, 93, 156, 35, 55, 88, 56, 89, 151, 222, 223, 224, 225, 226, 314, 315, 316, 317, 318, 228, 90, 152, 227, 229, 319, 320, 91, 154, 153, 23, 38, 58, 94, 157, 59, 60, 62, 96, 61, 63, 97, 98, 99, 161, 101, 6]
theorem ptClo_eq : Tryz.prog.closure 3 = ptClo := by rw [closure_eq leads_eq]; kernel_rfl
theorem ptCloP : Tryz.pinned.checked.prog.closure 3 = ptClo := ptClo_eq
theorem ptJ0 : (Rows.partsTextsRow.wf (OpenSpec.ofChange Rows.partsTextsSpec)) = true := by kernel_rfl
theorem ptJ1 : laidOutB Tryz.pinned.checked.prog = true := laidOut_eq
theorem ptJ2 : mapsRowed Tryz.pinned.checked.prog = true := rowed_eq
theorem ptJ3 : (Tryz.f3.params.all (Tryz.pinned.checked.prog.readableRec ·)) = true := by kernel_rfl
theorem ptJ4 : (namedTie Tryz.pinned.checked.prog Rows.partsTextsRow.named Rows.partsTextsSpec.vars) = true := by kernel_rfl
theorem ptJ5 : ((Rows.partsTextsRow.stops == [])) = true := by kernel_rfl
theorem ptJ6 : ((Tryz.pinned.checked.prog.stops == [])) = true := by kernel_rfl
theorem ptJ7 : ((Rows.partsTextsRow.knobs == [])) = true := by kernel_rfl
theorem ptJ8 : ((Tryz.pinned.checked.prog.stopKnobs == [])) = true := by kernel_rfl
theorem ptJ9 : (Rows.partsTextsRow.inPlace == Tryz.pinned.checked.prog.inPlace 3) = true := beq_of (inPlace_eq ptCloP in_eq) (by kernel_rfl)
theorem ptJ10 : (Rows.partsTextsRow.unfollowed == Tryz.pinned.checked.prog.unfollowed 3) = true := by
  unfold Program.unfollowed; rw [ptCloP]; kernel_rfl
theorem ptJ11 : (Rows.partsTextsRow.recurses == Tryz.pinned.checked.prog.recurses 3) = true := by
  unfold Program.recurses Program.unfollowed; rw [ptCloP]; kernel_rfl
theorem ptJ12 : (Rows.partsTextsRow.named == Tryz.pinned.checked.prog.varsNamed 3) = true := beq_of (varsNamed_eq ptCloP gl_eq er_eq) (by kernel_rfl)
theorem ptJ13 : ((Rows.partsTextsRow.maps == (Tryz.f3.params.toList ++ Rows.partsTextsSpec.plain.varTypes Tryz.pinned.checked.prog).any (Tryz.pinned.checked.prog.mapsRec ·))) = true := by kernel_rfl
theorem ptJ14 : ((Rows.partsTextsRow.ifaces == (Tryz.f3.params.toList ++ Rows.partsTextsSpec.plain.varTypes Tryz.pinned.checked.prog).any (Tryz.pinned.checked.prog.ifacesRec ·))) = true := by kernel_rfl
theorem ptJ15 : ((Rows.partsTextsRow.mapsOut == Tryz.pinned.checked.prog.mapsAmong Tryz.f3.resultTypes.toList)) = true := by kernel_rfl
theorem ptJ16 : ((Rows.partsTextsRow.loops == (Tryz.f3.params.toList ++ Rows.partsTextsSpec.plain.varTypes Tryz.pinned.checked.prog).any (Tryz.pinned.checked.prog.loopsFrom ·))) = true := by kernel_rfl
theorem ptJ17 : ((Rows.partsTextsRow.wideKeys == (Tryz.f3.params.toList ++ Rows.partsTextsSpec.plain.varTypes Tryz.pinned.checked.prog ++ Tryz.f3.resultTypes.toList).any (Tryz.pinned.checked.prog.wideKeysFrom ·))) = true := by kernel_rfl
theorem ptJ18 : (Rows.partsTextsSpec.vars.all (Tryz.pinned.checked.prog.varReadable ·)) = true := by kernel_rfl
theorem ptJ19 : (Tryz.f3.resultTypes.all (fun t => Tryz.pinned.checked.prog.readableRec t && decide (t < Tryz.pinned.checked.prog.types.size))) = true := by kernel_rfl
theorem ptJ20 : ((Rows.partsTextsRow.ifacesOut == Tryz.f3.resultTypes.toList.any (Tryz.pinned.checked.prog.ifacesRec ·))) = true := by kernel_rfl
theorem ptJ21 : ((Rows.partsTextsRow.loopsOut == Tryz.f3.resultTypes.toList.any (Tryz.pinned.checked.prog.loopsFrom ·))) = true := by kernel_rfl
theorem ptJ22 : ((Rows.partsTextsRow.plainKeys == Tryz.pinned.checked.prog.plainKeys)) = true := by kernel_rfl
theorem ptJ23 : (Rows.partsTextsRow.shortTexts.isNone) = true := by kernel_rfl
theorem ptJ24 : Tryz.pinned.checked.prog.stopsHeard = true := stops_eq
theorem ptJ25 : Tryz.pinned.checked.prog.mayEnter = true := may_eq
theorem ptJ26 : ((Rows.partsTextsRow.lifted == Tryz.pinned.checked.prog.liftsFinal)) = true := by kernel_rfl
theorem ptJ27 : ((Tryz.pinned.checked.prog.make == some Rows.partsTextsRow.make)) = true := by kernel_rfl
theorem ptJ28 : ((Rows.partsTextsRow.kinds == (if Rows.partsTextsRow.domain.isEmpty then [] else Tryz.f3.params.toList.map fun t => match Tryz.pinned.checked.prog.underlying t with | some (.int k) => some k | _ => none))) = true := by kernel_rfl
theorem ptJ29 : ((Rows.partsTextsRow.pinned == Rows.partsTextsRow.pinnedBy)) = true := by kernel_rfl
theorem ptJ30 : ((Rows.partsTextsRow.veiled == (Tryz.f3.params.toList ++ Rows.partsTextsSpec.plain.varTypes Tryz.pinned.checked.prog ++ Tryz.f3.resultTypes.toList).any (Tryz.pinned.checked.prog.veiledRec ·))) = true := by kernel_rfl
theorem ptJ31 : (Rows.partsTextsRow.veiledFits Tryz.pinned.checked.prog Tryz.f3.params.toList (Tryz.f3.params.toList ++ Rows.partsTextsSpec.plain.varTypes Tryz.pinned.checked.prog ++ Tryz.f3.resultTypes.toList)) = true := by kernel_rfl
theorem ptJoined : joinedFacts Tryz.pinned.checked.prog 3 Tryz.f3 Rows.partsTextsSpec Rows.partsTextsRow = true := (ptAnd (ptAnd (ptAnd (ptAnd (ptAnd (ptAnd (ptAnd (ptAnd (ptAnd (ptAnd (ptAnd (ptAnd (ptAnd (ptAnd (ptAnd (ptAnd (ptAnd (ptAnd (ptAnd (ptAnd (ptAnd (ptAnd (ptAnd (ptAnd (ptAnd (ptAnd (ptAnd (ptAnd (ptAnd (ptAnd (ptAnd ptJ0 ptJ1) ptJ2) ptJ3) ptJ4) ptJ5) ptJ6) ptJ7) ptJ8) ptJ9) ptJ10) ptJ11) ptJ12) ptJ13) ptJ14) ptJ15) ptJ16) ptJ17) ptJ18) ptJ19) ptJ20) ptJ21) ptJ22) ptJ23) ptJ24) ptJ25) ptJ26) ptJ27) ptJ28) ptJ29) ptJ30) ptJ31)
end
end Go.Proofs.YthenjfppjikkbaaGreatDoor
