/- The closed facts of a row, part by part. -/
import Derived.Test.YtlhedmifkfipcaaGreatDoorIl
import Derived.Test.YtlhedmifkfipcaaGreatDoorIo
import Derived.Test.YtlhedmifkfipcaaGreatDoorIn
import Derived.Test.YtlhedmifkfipcaaGreatDoorIg
import Derived.Test.YtlhedmifkfipcaaGreatDoorIw
import Derived.Test.YtlhedmifkfipcaaGreatDoorIr
import Derived.Test.YtlhedmifkfipcaaGreatDoorRows
import Derived.JoinedOf
namespace Go.Proofs.YtlhedmifkfipcaaGreatDoor
open Go Go.Abs
noncomputable section
set_option maxRecDepth 1000000
theorem kkAnd {a b : Bool} (h : a = true) (h2 : b = true) : (a && b) = true := by rw [h, h2]; rfl
def kkClo : List FuncId := [3, 5, 6, 19, 8, 23, 24, 56, 98, 32, 71, 72, 127, 160, 75, 129, 213, 161, 162, 163, 265, 44, 35, 73, 128, 266, 385, 386, 495, 387, 48, 82, 83, 139, 226, 335, 336, 337, 455, 84, 140, 267, 388, 389, 79, 57, 58, 99, 164, 165, 166, 167, 169, 101, 268, 390, 100, 168, 269, 391, 496, 598, 685, 684, 686, 599, 339, 788, 228, 231, 789, 849, 898, 344, 457, 429, 519, 548, 198, 314, 108, 173, 273, 395, 282, 283, 174, 284, 175, 176, 123, 122, 177, 285, 405, 499, 600, 40, 406, 500, 501, 601, 688, 502, 407, 503, 602, 689, 690, 187, 300, 301, 302, 316, 179, 288, 408, 504, 522, 603, 289, 409, 505, 410, 411, 180, 290, 413, 507, 437, 212, 438, 531, 508, 509, 604, 605, 691, 692, 506, 412, 286, 197, 199, 200, 315, 428, 194, 312, 427, 517, 606, 693, 694, 616, 695, 607, 608, 610, 609, 611, 612, 525, 524, 526, 515, 615, 532, 530, 696, 613, 614, 441, 535, 620, 534, 536, 697, 537, 518, 617, 618, 698, 109, 178, 287, 118, 195, 121, 201, 317, 430, 431, 432, 520, 521, 433, 434, 435, 523, 527, 528, 529, 436, 439, 533, 619, 440, 442, 538, 539, 318, 443, 170, 271, 106, 171, 272, 394, 274, 275, 396, 277, 295, 422, 514, 43, 276, 279, 399, 400, 401, 402, 403, 278, 310, 397, 424, 516, 398, 280, 172, 281, 404, 120, 497, 850, 900, 899, 934, 935, 936, 790, 687, 392, 393, 498, 270, 59, 60, 55, 96, 97, 7, 20, 47, 81, 49, 85, 141, 142, 143, 144, 227, 338, 423, 229, 230, 21, 50, 86, 145, 232, 340, 233, 341, 456, 52, 88, 146, 235, 343, 313, 236, 237, 346, 345, 458, 147, 91, 153, 256, 257, 154, 27, 62, 63, 102, 103, 105, 104, 107, 110, 181, 182, 291, 292, 414, 415, 416, 510, 417, 293, 420, 421, 419, 513, 418, 511, 512, 183, 294, 111, 112, 184, 296, 185, 297, 298, 186, 299, 113, 114, 115, 188, 303, 304, 305, 189, 306, 190, 307, 425, 116, 191, 192, 308, 426, 309, 193, 311, 258, 259, 380, 29, 64, 65, 66, 117, 67, 119, 196, 379, 493, 260, 381, 494, 382, 383, 148, 238, 332, 333, 149, 239, 241, 240, 347, 242, 157, 262, 89, 151, 152, 246, 349, 350, 459, 549, 351, 248, 362, 352, 365, 353, 366, 460, 550, 53, 92, 156, 158, 155, 261, 93, 94, 95, 159, 263, 264, 384, 621, 243, 622, 699, 779, 485, 375, 491, 597, 673, 674, 675, 676, 677, 678, 679, 680, 681, 683, 682, 486, 588, 663, 785, 848, 627, 664, 665, 666, 786, 787, 551, 624, 623, 376, 552, 625, 553, 554, 626, 555, 371, 481, 126, 211, 587, 655, 656, 782, 657, 320, 321, 658, 783, 784, 847, 659, 660, 661, 662, 482, 484, 324, 483, 628, 700, 629, 556, 630, 377, 631, 701, 705, 706, 795, 492, 791, 851, 901, 902, 937, 938, 972, 973, 869, 702, 792, 703, 704, 793, 794, 707, 354, 355, 461, 557, 558, 559, 560, 632, 462, 253, 370, 480, 372, 356, 463, 562, 561, 464, 563, 633, 708, 796, 810, 805, 709, 797, 852, 903, 710, 711, 798, 712, 799, 812, 806, 800, 853, 854, 904, 713, 801, 714, 802, 715, 803, 804, 25, 61, 716, 717, 807, 855, 905, 906, 856, 908, 909, 939, 974, 975, 996, 995, 1009, 998, 997, 1010, 1014, 1015, 1024, 1016, 1017, 1025, 1026, 1027, 1018, 1019, 1020, 1021, 976, 941, 940, 942, 907, 634, 718, 719, 720, 721, 722, 635, 723, 808, 809, 724, 811, 725, 813, 824, 726, 814, 727, 815, 728, 729, 730, 731, 816, 732, 817, 733, 818, 857, 734, 636, 735, 819, 858, 910, 944, 945, 943, 977, 911, 912, 946, 947, 978, 999, 1000, 1001, 1011, 1002, 948, 1012, 1003, 979, 1004, 1005, 913, 914, 949, 980, 950, 820, 859, 821, 860, 915, 951, 952, 981, 983, 985, 984, 1007, 982, 1006, 736, 822, 861, 862, 916, 76, 864, 865, 863, 737, 825, 823, 738, 826, 866, 637, 739, 740, 741, 827, 867, 917, 918, 919, 920, 921, 868, 742, 828, 870, 872, 923, 871, 922, 873, 924, 874, 925, 953, 454, 547, 875, 926, 876, 877, 927, 469, 574, 743, 829, 878, 928, 879, 880, 638, 744, 830, 831, 832, 745, 746, 639, 747, 833, 834, 748, 749, 750, 835, 751, 836, 881, 882, 883, 929, 930, 954, 955, 986, 956, 987, 988, 993, 994, 992, 957, 958, 989, 990, 991, 1008, 1013, 1022, 1023, 965, 959, 960, 961, 962, 963, 964, 966, 967, 968, 969, 931, 970, 640, 752, 837, 753, 754, 755, 756, 641, 757, 758, 759, 487, 589, 667, 590, 669, 668, 760, 839, 777, 884, 896, 838, 761, 840, 885, 762, 763, 841, 886, 887, 888, 90, 889, 890, 891, 892, 642, 764, 765, 488, 591, 766, 842, 778, 893, 932, 933, 971, 844, 767, 768, 843, 894, 769, 770, 771, 845, 895, 772, 846, 897, 465, 564, 643, 644, 466, 565, 359, 360, 470, 471, 472, 361, 477, 578, 357, 579, 489, 592, 593, 670, 648, 649, 596, 671, 672, 490, 594, 595, 650, 773, 774, 775, 776, 476, 577, 473, 575, 245, 478, 580, 651, 479, 581, 582, 583, 584, 652, 653, 585, 654, 781, 780, 586, 373, 150, 244, 348, 474, 475, 576, 645, 566, 567, 568, 569, 646, 570, 647, 571, 572, 358, 467, 573, 468, 247, 249, 250, 363, 251, 364, 252, 367, 368, 369, 254, 255, 374, 378, 234, 342, 22, 51, 87, 54, 9, 10, 11, 26, 28, 31, 70, 30, 68, 124, 69, 125, 202, 208, 203, 319, 204, 205, 322, 323, 444, 206, 207, 209, 210, 12, 13, 14]
theorem kkClo_eq : Tryz.prog.closure 3 = kkClo := by rw [closure_eq leads_eq]; kernel_rfl
theorem kkCloP : Tryz.pinned.checked.prog.closure 3 = kkClo := kkClo_eq
theorem kkJ0 : (Rows.keysKnownRow.wf (OpenSpec.ofChange Rows.keysKnownSpec)) = true := by kernel_rfl
theorem kkJ1 : laidOutB Tryz.pinned.checked.prog = true := laidOut_eq
theorem kkJ2 : mapsRowed Tryz.pinned.checked.prog = true := rowed_eq
theorem kkJ3 : (Tryz.f3.params.all (Tryz.pinned.checked.prog.readableRec ·)) = true := by kernel_rfl
theorem kkJ4 : (namedTie Tryz.pinned.checked.prog Rows.keysKnownRow.named Rows.keysKnownSpec.vars) = true := by kernel_rfl
theorem kkJ5 : ((Rows.keysKnownRow.stops == [])) = true := by kernel_rfl
theorem kkJ6 : ((Tryz.pinned.checked.prog.stops == [])) = true := by kernel_rfl
theorem kkJ7 : ((Rows.keysKnownRow.knobs == [])) = true := by kernel_rfl
theorem kkJ8 : ((Tryz.pinned.checked.prog.stopKnobs == [])) = true := by kernel_rfl
theorem kkJ9 : (Rows.keysKnownRow.inPlace == Tryz.pinned.checked.prog.inPlace 3) = true := beq_of (inPlace_eq kkCloP in_eq) (by kernel_rfl)
theorem kkJ10 : (Rows.keysKnownRow.unfollowed == Tryz.pinned.checked.prog.unfollowed 3) = true := by
  unfold Program.unfollowed; rw [kkCloP]; kernel_rfl
theorem kkJ11 : (Rows.keysKnownRow.recurses == Tryz.pinned.checked.prog.recurses 3) = true := by
  unfold Program.recurses Program.unfollowed; rw [kkCloP]; kernel_rfl
theorem kkJ12 : (Rows.keysKnownRow.named == Tryz.pinned.checked.prog.varsNamed 3) = true := beq_of (varsNamed_eq kkCloP gl_eq er_eq) (by kernel_rfl)
theorem kkJ13 : ((Rows.keysKnownRow.maps == (Tryz.f3.params.toList ++ Rows.keysKnownSpec.plain.varTypes Tryz.pinned.checked.prog).any (Tryz.pinned.checked.prog.mapsRec ·))) = true := by kernel_rfl
theorem kkJ14 : ((Rows.keysKnownRow.ifaces == (Tryz.f3.params.toList ++ Rows.keysKnownSpec.plain.varTypes Tryz.pinned.checked.prog).any (Tryz.pinned.checked.prog.ifacesRec ·))) = true := by kernel_rfl
theorem kkJ15 : ((Rows.keysKnownRow.mapsOut == Tryz.pinned.checked.prog.mapsAmong Tryz.f3.resultTypes.toList)) = true := by kernel_rfl
theorem kkJ16 : ((Rows.keysKnownRow.loops == (Tryz.f3.params.toList ++ Rows.keysKnownSpec.plain.varTypes Tryz.pinned.checked.prog).any (Tryz.pinned.checked.prog.loopsFrom ·))) = true := by kernel_rfl
theorem kkJ17 : ((Rows.keysKnownRow.wideKeys == (Tryz.f3.params.toList ++ Rows.keysKnownSpec.plain.varTypes Tryz.pinned.checked.prog ++ Tryz.f3.resultTypes.toList).any (Tryz.pinned.checked.prog.wideKeysFrom ·))) = true := by kernel_rfl
theorem kkJ18 : (Rows.keysKnownSpec.vars.all (Tryz.pinned.checked.prog.varReadable ·)) = true := by kernel_rfl
theorem kkJ19 : (Tryz.f3.resultTypes.all (fun t => Tryz.pinned.checked.prog.readableRec t && decide (t < Tryz.pinned.checked.prog.types.size))) = true := by kernel_rfl
theorem kkJ20 : ((Rows.keysKnownRow.ifacesOut == Tryz.f3.resultTypes.toList.any (Tryz.pinned.checked.prog.ifacesRec ·))) = true := by kernel_rfl
theorem kkJ21 : ((Rows.keysKnownRow.loopsOut == Tryz.f3.resultTypes.toList.any (Tryz.pinned.checked.prog.loopsFrom ·))) = true := by kernel_rfl
theorem kkJ22 : ((Rows.keysKnownRow.plainKeys == Tryz.pinned.checked.prog.plainKeys)) = true := by kernel_rfl
theorem kkJ23 : (Rows.keysKnownRow.shortTexts.isNone) = true := by kernel_rfl
theorem kkJ24 : Tryz.pinned.checked.prog.stopsHeard = true := stops_eq
theorem kkJ25 : Tryz.pinned.checked.prog.mayEnter = true := may_eq
theorem kkJ26 : ((Rows.keysKnownRow.lifted == Tryz.pinned.checked.prog.liftsFinal)) = true := by kernel_rfl
theorem kkJ27 : ((Tryz.pinned.checked.prog.make == some Rows.keysKnownRow.make)) = true := by kernel_rfl
theorem kkJ28 : ((Rows.keysKnownRow.kinds == (if Rows.keysKnownRow.domain.isEmpty then [] else Tryz.f3.params.toList.map fun t => match Tryz.pinned.checked.prog.underlying t with | some (.int k) => some k | _ => none))) = true := by kernel_rfl
theorem kkJ29 : ((Rows.keysKnownRow.pinned == Rows.keysKnownRow.pinnedBy)) = true := by kernel_rfl
theorem kkJ30 : ((Rows.keysKnownRow.veiled == (Tryz.f3.params.toList ++ Rows.keysKnownSpec.plain.varTypes Tryz.pinned.checked.prog ++ Tryz.f3.resultTypes.toList).any (Tryz.pinned.checked.prog.veiledRec ·))) = true := by kernel_rfl
theorem kkJ31 : (Rows.keysKnownRow.veiledFits Tryz.pinned.checked.prog Tryz.f3.params.toList (Tryz.f3.params.toList ++ Rows.keysKnownSpec.plain.varTypes Tryz.pinned.checked.prog ++ Tryz.f3.resultTypes.toList)) = true := by kernel_rfl
theorem kkJoined : joinedFacts Tryz.pinned.checked.prog 3 Tryz.f3 Rows.keysKnownSpec Rows.keysKnownRow = true := (kkAnd (kkAnd (kkAnd (kkAnd (kkAnd (kkAnd (kkAnd (kkAnd (kkAnd (kkAnd (kkAnd (kkAnd (kkAnd (kkAnd (kkAnd (kkAnd (kkAnd (kkAnd (kkAnd (kkAnd (kkAnd (kkAnd (kkAnd (kkAnd (kkAnd (kkAnd (kkAnd (kkAnd (kkAnd (kkAnd (kkAnd kkJ0 kkJ1) kkJ2) kkJ3) kkJ4) kkJ5) kkJ6) kkJ7) kkJ8) kkJ9) kkJ10) kkJ11) kkJ12) kkJ13) kkJ14) kkJ15) kkJ16) kkJ17) kkJ18) kkJ19) kkJ20) kkJ21) kkJ22) kkJ23) kkJ24) kkJ25) kkJ26) kkJ27) kkJ28) kkJ29) kkJ30) kkJ31)
end
end Go.Proofs.YtlhedmifkfipcaaGreatDoor
