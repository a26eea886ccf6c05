/- The closed facts of a row, part by part. -/
import Derived.Test.YtgiioiohgnfmgaaGreatDoorJl
import Derived.Test.YtgiioiohgnfmgaaGreatDoorJo
import Derived.Test.YtgiioiohgnfmgaaGreatDoorJn
import Derived.Test.YtgiioiohgnfmgaaGreatDoorJg
import Derived.Test.YtgiioiohgnfmgaaGreatDoorJw
import Derived.Test.YtgiioiohgnfmgaaGreatDoorJr
import Derived.Test.YtgiioiohgnfmgaaGreatDoorRows
import Derived.JoinedOf
namespace Go.Proofs.YtgiioiohgnfmgaaGreatDoor
open Go Go.Abs
noncomputable section
set_option maxRecDepth 1000000
theorem acAnd {a b : Bool} (h : a = true) (h2 : b = true) : (a && b) = true := by rw [h, h2]; rfl
def acClo : List FuncId := [5, 18, 20, 32, 64, 120, 84, 140, 141, 226, 191, 192, 295, 406, 193, 194, 195, 296, 210, 209, 305, 416, 297, 407, 307, 418, 408, 47, 85, 86, 142, 227, 330, 331, 332, 441, 87, 143, 298, 409, 410, 44, 65, 66, 121, 196, 197, 198, 199, 201, 123, 299, 411, 122, 200, 300, 412, 587, 694, 773, 772, 774, 695, 225, 830, 136, 139, 831, 884, 915, 128, 213, 312, 421, 313, 314, 315, 223, 322, 425, 594, 434, 435, 323, 436, 324, 325, 378, 377, 326, 127, 207, 306, 417, 208, 211, 308, 309, 419, 590, 310, 212, 311, 420, 591, 592, 339, 451, 452, 453, 617, 79, 133, 216, 316, 422, 423, 134, 217, 317, 218, 219, 188, 291, 402, 583, 584, 484, 690, 691, 585, 586, 692, 693, 770, 771, 318, 220, 371, 492, 493, 494, 638, 723, 437, 604, 696, 776, 833, 886, 887, 843, 888, 834, 835, 837, 836, 838, 839, 782, 781, 783, 714, 842, 788, 787, 889, 840, 841, 706, 791, 847, 790, 792, 890, 793, 777, 844, 845, 891, 224, 327, 438, 328, 439, 329, 440, 605, 697, 698, 699, 778, 779, 700, 701, 702, 780, 784, 785, 786, 703, 704, 789, 846, 705, 707, 794, 795, 606, 708, 125, 205, 221, 319, 424, 593, 426, 427, 595, 429, 446, 615, 713, 616, 428, 431, 598, 599, 600, 601, 602, 430, 460, 596, 618, 715, 597, 432, 320, 433, 603, 376, 588, 885, 917, 916, 934, 935, 936, 832, 775, 413, 414, 589, 301, 67, 68, 14, 33, 69, 70, 19, 37, 73, 126, 206, 74, 75, 130, 129, 214, 38, 39, 40, 76, 131, 132, 215, 77, 78, 35, 36, 23, 45, 80, 81, 82, 83, 135, 222, 321, 137, 138, 72, 124, 202, 302, 203, 303, 415, 6, 24, 46, 27, 53, 107, 108, 54, 92, 146, 147, 229, 230, 232, 231, 233, 234, 333, 334, 442, 443, 607, 608, 609, 709, 610, 444, 613, 614, 612, 712, 611, 710, 711, 335, 445, 235, 236, 336, 447, 337, 448, 449, 338, 450, 237, 238, 239, 340, 454, 455, 456, 341, 457, 263, 373, 506, 240, 342, 343, 458, 619, 459, 344, 461, 109, 110, 176, 177, 262, 267, 265, 374, 268, 375, 507, 175, 266, 111, 178, 269, 179, 180, 48, 88, 144, 228, 49, 89, 91, 90, 145, 93, 28, 55, 25, 51, 52, 97, 149, 150, 241, 345, 151, 99, 158, 152, 161, 153, 162, 242, 346, 170, 255, 363, 364, 164, 247, 256, 257, 258, 365, 353, 473, 629, 462, 94, 463, 620, 579, 253, 172, 261, 372, 495, 496, 497, 498, 499, 500, 501, 502, 503, 505, 504, 254, 362, 485, 635, 722, 468, 486, 487, 488, 636, 637, 347, 465, 464, 115, 348, 466, 349, 350, 467, 351, 168, 249, 360, 483, 359, 475, 476, 630, 477, 631, 632, 478, 633, 634, 721, 479, 480, 481, 482, 250, 252, 361, 251, 469, 621, 470, 352, 471, 173, 472, 622, 626, 627, 720, 264, 716, 796, 848, 849, 892, 893, 918, 919, 741, 623, 717, 624, 625, 718, 719, 628, 154, 155, 243, 354, 355, 356, 357, 474, 244, 104, 167, 248, 169, 113, 181, 271, 270, 182, 272, 379, 508, 639, 653, 648, 509, 640, 724, 797, 510, 511, 641, 512, 642, 655, 649, 643, 725, 726, 798, 513, 644, 514, 645, 515, 646, 647, 399, 580, 516, 517, 650, 727, 799, 800, 728, 802, 803, 850, 894, 895, 921, 920, 937, 923, 922, 938, 942, 943, 952, 944, 945, 953, 954, 955, 946, 947, 948, 949, 896, 852, 851, 853, 801, 380, 518, 519, 520, 521, 522, 381, 523, 651, 652, 524, 654, 525, 656, 667, 526, 657, 527, 658, 528, 529, 530, 531, 659, 532, 660, 533, 661, 729, 534, 382, 535, 662, 730, 804, 855, 856, 854, 897, 805, 806, 857, 858, 898, 924, 925, 926, 939, 927, 859, 940, 928, 899, 929, 930, 807, 808, 860, 900, 861, 663, 731, 664, 732, 809, 862, 863, 901, 903, 905, 904, 932, 902, 931, 536, 665, 733, 734, 810, 811, 736, 737, 735, 537, 668, 666, 538, 669, 738, 383, 539, 540, 541, 670, 739, 812, 813, 814, 815, 816, 740, 542, 671, 742, 744, 818, 743, 817, 745, 819, 746, 820, 864, 824, 865, 747, 821, 748, 749, 822, 56, 112, 543, 672, 750, 823, 751, 752, 384, 544, 673, 674, 675, 545, 546, 385, 547, 676, 677, 548, 549, 550, 678, 551, 679, 753, 754, 755, 825, 826, 866, 867, 906, 868, 907, 908, 913, 914, 912, 869, 870, 909, 910, 911, 933, 941, 950, 951, 877, 871, 872, 873, 874, 875, 876, 878, 879, 880, 881, 827, 882, 386, 552, 680, 553, 554, 555, 556, 387, 557, 558, 559, 189, 292, 403, 293, 405, 404, 560, 682, 577, 756, 768, 681, 561, 683, 757, 562, 563, 684, 758, 759, 760, 26, 761, 762, 763, 764, 388, 564, 565, 190, 294, 566, 685, 578, 765, 828, 829, 883, 687, 567, 568, 686, 766, 569, 570, 571, 688, 767, 572, 689, 769, 183, 273, 389, 390, 184, 274, 30, 31, 57, 58, 59, 114, 185, 282, 156, 283, 259, 366, 367, 489, 394, 395, 370, 490, 491, 260, 368, 369, 396, 573, 574, 575, 576, 63, 119, 60, 117, 96, 186, 284, 397, 187, 285, 286, 287, 288, 398, 400, 289, 401, 582, 581, 290, 116, 50, 95, 148, 61, 62, 118, 391, 275, 276, 277, 278, 392, 279, 393, 280, 281, 157, 245, 358, 246, 98, 100, 101, 159, 102, 160, 103, 163, 165, 166, 105, 106, 171, 174, 204, 304, 42, 41, 21, 43, 22]
theorem acClo_eq : Tryz.prog.closure 5 = acClo := by rw [closure_eq leads_eq]; kernel_rfl
theorem acCloP : Tryz.pinned.checked.prog.closure 5 = acClo := acClo_eq
theorem acJ0 : (Rows.accumKnownRow.wf (OpenSpec.ofChange Rows.accumKnownSpec)) = true := by kernel_rfl
theorem acJ1 : laidOutB Tryz.pinned.checked.prog = true := laidOut_eq
theorem acJ2 : mapsRowed Tryz.pinned.checked.prog = true := rowed_eq
theorem acJ3 : (Tryz.f5.params.all (Tryz.pinned.checked.prog.readableRec ·)) = true := by kernel_rfl
theorem acJ4 : (namedTie Tryz.pinned.checked.prog Rows.accumKnownRow.named Rows.accumKnownSpec.vars) = true := by kernel_rfl
theorem acJ5 : ((Rows.accumKnownRow.stops == [])) = true := by kernel_rfl
theorem acJ6 : ((Tryz.pinned.checked.prog.stops == [])) = true := by kernel_rfl
theorem acJ7 : ((Rows.accumKnownRow.knobs == [])) = true := by kernel_rfl
theorem acJ8 : ((Tryz.pinned.checked.prog.stopKnobs == [])) = true := by kernel_rfl
theorem acJ9 : (Rows.accumKnownRow.inPlace == Tryz.pinned.checked.prog.inPlace 5) = true := beq_of (inPlace_eq acCloP in_eq) (by kernel_rfl)
theorem acJ10 : (Rows.accumKnownRow.unfollowed == Tryz.pinned.checked.prog.unfollowed 5) = true := by
  unfold Program.unfollowed; rw [acCloP]; kernel_rfl
theorem acJ11 : (Rows.accumKnownRow.recurses == Tryz.pinned.checked.prog.recurses 5) = true := by
  unfold Program.recurses Program.unfollowed; rw [acCloP]; kernel_rfl
theorem acJ12 : (Rows.accumKnownRow.named == Tryz.pinned.checked.prog.varsNamed 5) = true := beq_of (varsNamed_eq acCloP gl_eq er_eq) (by kernel_rfl)
theorem acJ13 : ((Rows.accumKnownRow.maps == (Tryz.f5.params.toList ++ Rows.accumKnownSpec.plain.varTypes Tryz.pinned.checked.prog).any (Tryz.pinned.checked.prog.mapsRec ·))) = true := by kernel_rfl
theorem acJ14 : ((Rows.accumKnownRow.ifaces == (Tryz.f5.params.toList ++ Rows.accumKnownSpec.plain.varTypes Tryz.pinned.checked.prog).any (Tryz.pinned.checked.prog.ifacesRec ·))) = true := by kernel_rfl
theorem acJ15 : ((Rows.accumKnownRow.mapsOut == Tryz.pinned.checked.prog.mapsAmong Tryz.f5.resultTypes.toList)) = true := by kernel_rfl
theorem acJ16 : ((Rows.accumKnownRow.loops == (Tryz.f5.params.toList ++ Rows.accumKnownSpec.plain.varTypes Tryz.pinned.checked.prog).any (Tryz.pinned.checked.prog.loopsFrom ·))) = true := by kernel_rfl
theorem acJ17 : ((Rows.accumKnownRow.wideKeys == (Tryz.f5.params.toList ++ Rows.accumKnownSpec.plain.varTypes Tryz.pinned.checked.prog ++ Tryz.f5.resultTypes.toList).any (Tryz.pinned.checked.prog.wideKeysFrom ·))) = true := by kernel_rfl
theorem acJ18 : (Rows.accumKnownSpec.vars.all (Tryz.pinned.checked.prog.varReadable ·)) = true := by kernel_rfl
theorem acJ19 : (Tryz.f5.resultTypes.all (fun t => Tryz.pinned.checked.prog.readableRec t && decide (t < Tryz.pinned.checked.prog.types.size))) = true := by kernel_rfl
theorem acJ20 : ((Rows.accumKnownRow.ifacesOut == Tryz.f5.resultTypes.toList.any (Tryz.pinned.checked.prog.ifacesRec ·))) = true := by kernel_rfl
theorem acJ21 : ((Rows.accumKnownRow.loopsOut == Tryz.f5.resultTypes.toList.any (Tryz.pinned.checked.prog.loopsFrom ·))) = true := by kernel_rfl
theorem acJ22 : ((Rows.accumKnownRow.plainKeys == Tryz.pinned.checked.prog.plainKeys)) = true := by kernel_rfl
theorem acJ23 : (Rows.accumKnownRow.shortTexts.isNone) = true := by kernel_rfl
theorem acJ24 : Tryz.pinned.checked.prog.stopsHeard = true := stops_eq
theorem acJ25 : Tryz.pinned.checked.prog.mayEnter = true := may_eq
theorem acJ26 : ((Rows.accumKnownRow.lifted == Tryz.pinned.checked.prog.liftsFinal)) = true := by kernel_rfl
theorem acJ27 : ((Tryz.pinned.checked.prog.make == some Rows.accumKnownRow.make)) = true := by kernel_rfl
theorem acJ28 : ((Rows.accumKnownRow.kinds == (if Rows.accumKnownRow.domain.isEmpty then [] else Tryz.f5.params.toList.map fun t => match Tryz.pinned.checked.prog.underlying t with | some (.int k) => some k | _ => none))) = true := by kernel_rfl
theorem acJ29 : ((Rows.accumKnownRow.pinned == Rows.accumKnownRow.pinnedBy)) = true := by kernel_rfl
theorem acJ30 : ((Rows.accumKnownRow.veiled == (Tryz.f5.params.toList ++ Rows.accumKnownSpec.plain.varTypes Tryz.pinned.checked.prog ++ Tryz.f5.resultTypes.toList).any (Tryz.pinned.checked.prog.veiledRec ·))) = true := by kernel_rfl
theorem acJ31 : (Rows.accumKnownRow.veiledFits Tryz.pinned.checked.prog Tryz.f5.params.toList (Tryz.f5.params.toList ++ Rows.accumKnownSpec.plain.varTypes Tryz.pinned.checked.prog ++ Tryz.f5.resultTypes.toList)) = true := by kernel_rfl
theorem acJoined : joinedFacts Tryz.pinned.checked.prog 5 Tryz.f5 Rows.accumKnownSpec Rows.accumKnownRow = true := (acAnd (acAnd (acAnd (acAnd (acAnd (acAnd (acAnd (acAnd (acAnd (acAnd (acAnd (acAnd (acAnd (acAnd (acAnd (acAnd (acAnd (acAnd (acAnd (acAnd (acAnd (acAnd (acAnd (acAnd (acAnd (acAnd (acAnd (acAnd (acAnd (acAnd (acAnd acJ0 acJ1) acJ2) acJ3) acJ4) acJ5) acJ6) acJ7) acJ8) acJ9) acJ10) acJ11) acJ12) acJ13) acJ14) acJ15) acJ16) acJ17) acJ18) acJ19) acJ20) acJ21) acJ22) acJ23) acJ24) acJ25) acJ26) acJ27) acJ28) acJ29) acJ30) acJ31)
end
end Go.Proofs.YtgiioiohgnfmgaaGreatDoor
