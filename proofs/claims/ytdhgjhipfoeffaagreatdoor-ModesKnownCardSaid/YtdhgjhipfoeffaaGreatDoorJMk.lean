/- The closed facts of a row, part by part. -/
import Derived.Test.YtdhgjhipfoeffaaGreatDoorJl
import Derived.Test.YtdhgjhipfoeffaaGreatDoorJo
import Derived.Test.YtdhgjhipfoeffaaGreatDoorJn
import Derived.Test.YtdhgjhipfoeffaaGreatDoorJg
import Derived.Test.YtdhgjhipfoeffaaGreatDoorJw
import Derived.Test.YtdhgjhipfoeffaaGreatDoorJr
import Derived.Test.YtdhgjhipfoeffaaGreatDoorRows
import Derived.JoinedOf
namespace Go.Proofs.YtdhgjhipfoeffaaGreatDoor
open Go Go.Abs
noncomputable section
set_option maxRecDepth 1000000
theorem mkAnd {a b : Bool} (h : a = true) (h2 : b = true) : (a && b) = true := by rw [h, h2]; rfl
def mkClo : List FuncId := [5, 9, 10, 11, 18, 19, 13, 12, 20, 33, 34, 52, 21, 35, 53, 78, 110, 111, 131, 132, 133, 134, 150, 164, 173, 29, 45, 27, 40, 59, 92, 60, 93, 122, 139, 157, 140, 141, 142, 158, 61, 94, 62, 63, 95, 65, 96, 123, 143, 144, 124, 145, 159, 146, 160, 125, 126, 127, 64, 67, 98, 99, 100, 101, 102, 66, 97, 74, 75, 108, 73, 68, 41, 69, 103, 70, 104, 105, 106, 128, 107, 129, 147, 148, 161, 130, 149, 162, 163, 165, 71, 174, 194, 166, 175, 195, 196, 176, 197, 177, 178, 198, 199, 179, 200, 235, 236, 297, 298, 384, 481, 299, 237, 300, 385, 482, 483, 201, 238, 239, 240, 183, 207, 244, 316, 390, 408, 208, 245, 317, 246, 247, 184, 209, 249, 319, 309, 91, 310, 399, 320, 321, 409, 410, 499, 500, 318, 248, 202, 203, 241, 301, 386, 484, 578, 579, 494, 580, 485, 486, 488, 487, 489, 490, 393, 392, 394, 493, 400, 398, 581, 491, 492, 313, 403, 498, 402, 404, 582, 405, 387, 495, 496, 583, 167, 180, 204, 181, 205, 182, 206, 242, 302, 303, 304, 388, 389, 305, 306, 307, 391, 395, 396, 397, 308, 311, 401, 497, 312, 314, 406, 407, 243, 315, 151, 168, 169, 185, 152, 153, 154, 79, 112, 113, 14, 22, 36, 54, 80, 114, 135, 115, 136, 155, 156, 170, 186, 210, 250, 322, 251, 323, 411, 211, 212, 253, 252, 324, 187, 188, 213, 254, 255, 214, 219, 261, 262, 332, 333, 335, 334, 336, 337, 416, 417, 502, 503, 585, 586, 587, 685, 588, 504, 591, 592, 590, 688, 589, 686, 687, 418, 505, 338, 339, 419, 506, 420, 507, 508, 421, 509, 340, 341, 342, 422, 42, 510, 72, 423, 44, 381, 28, 43, 343, 424, 425, 511, 593, 512, 426, 513, 256, 257, 326, 327, 380, 413, 383, 480, 414, 501, 584, 325, 412, 258, 328, 415, 329, 330, 189, 215, 259, 331, 190, 216, 218, 217, 260, 220, 221, 263, 171, 192, 193, 225, 265, 266, 344, 427, 267, 227, 278, 268, 281, 269, 282, 345, 428, 290, 371, 468, 469, 284, 365, 372, 373, 374, 470, 435, 524, 603, 514, 222, 515, 594, 675, 369, 293, 379, 479, 567, 568, 569, 570, 571, 572, 573, 574, 575, 577, 576, 370, 467, 557, 682, 746, 15, 558, 559, 560, 683, 684, 429, 517, 516, 294, 430, 518, 431, 432, 519, 433, 288, 367, 58, 90, 466, 549, 550, 679, 551, 118, 119, 552, 680, 681, 745, 553, 554, 555, 556, 368, 56, 81, 55, 520, 595, 521, 434, 522, 295, 523, 596, 600, 601, 693, 382, 689, 747, 794, 795, 829, 830, 865, 866, 765, 597, 690, 598, 599, 691, 692, 602, 270, 271, 346, 436, 437, 438, 439, 525, 347, 232, 287, 366, 289, 272, 348, 441, 440, 349, 442, 526, 604, 694, 708, 703, 605, 695, 748, 796, 606, 607, 696, 608, 697, 710, 704, 698, 749, 750, 797, 609, 699, 610, 700, 611, 701, 702, 546, 676, 612, 613, 705, 751, 798, 799, 752, 801, 802, 831, 867, 868, 889, 888, 902, 891, 890, 903, 907, 908, 917, 909, 910, 918, 919, 920, 911, 912, 913, 914, 869, 833, 832, 834, 800, 527, 614, 615, 616, 617, 618, 528, 619, 706, 707, 620, 709, 621, 711, 722, 622, 712, 623, 713, 624, 625, 626, 627, 714, 628, 715, 629, 716, 753, 630, 529, 631, 717, 754, 803, 836, 837, 835, 870, 804, 805, 838, 839, 871, 892, 893, 894, 904, 895, 840, 905, 896, 872, 897, 898, 806, 807, 841, 873, 842, 718, 755, 719, 756, 808, 843, 844, 874, 876, 878, 877, 900, 875, 899, 632, 720, 757, 758, 809, 810, 760, 761, 759, 633, 723, 721, 634, 724, 762, 530, 635, 636, 637, 725, 763, 811, 812, 813, 814, 815, 764, 638, 726, 766, 768, 817, 767, 816, 769, 818, 770, 819, 845, 823, 846, 771, 820, 772, 773, 821, 354, 453, 639, 727, 774, 822, 775, 776, 531, 640, 728, 729, 730, 641, 642, 532, 643, 731, 732, 644, 645, 646, 733, 647, 734, 777, 778, 779, 824, 825, 847, 848, 879, 849, 880, 881, 886, 887, 885, 850, 851, 882, 883, 884, 901, 906, 915, 916, 858, 852, 853, 854, 855, 856, 857, 859, 860, 861, 862, 826, 863, 533, 648, 735, 649, 650, 651, 652, 534, 653, 654, 655, 375, 471, 561, 472, 563, 562, 656, 737, 673, 780, 792, 736, 657, 738, 781, 658, 659, 739, 782, 783, 784, 172, 785, 786, 787, 788, 535, 660, 661, 376, 473, 662, 740, 674, 789, 827, 828, 864, 742, 663, 664, 741, 790, 665, 666, 667, 743, 791, 668, 744, 793, 350, 443, 536, 537, 351, 444, 275, 276, 355, 356, 357, 277, 362, 457, 273, 458, 377, 474, 475, 564, 541, 542, 478, 565, 566, 378, 476, 477, 543, 669, 670, 671, 672, 361, 456, 358, 454, 224, 363, 459, 544, 364, 460, 461, 462, 463, 545, 547, 464, 548, 678, 677, 465, 291, 191, 223, 264, 359, 360, 455, 538, 445, 446, 447, 448, 539, 449, 540, 450, 451, 274, 352, 452, 353, 226, 228, 229, 279, 230, 280, 231, 283, 285, 286, 233, 234, 292, 296, 116, 137, 37, 38, 57, 82, 83, 117, 84, 85, 120, 121, 138, 86, 87, 88, 89, 24, 23, 39, 26, 25, 7, 6]
theorem mkClo_eq : Tryz.prog.closure 5 = mkClo := by rw [closure_eq leads_eq]; kernel_rfl
theorem mkCloP : Tryz.pinned.checked.prog.closure 5 = mkClo := mkClo_eq
theorem mkJ0 : (Rows.modesKnownRow.wf (OpenSpec.ofChange Rows.modesKnownSpec)) = true := by kernel_rfl
theorem mkJ1 : laidOutB Tryz.pinned.checked.prog = true := laidOut_eq
theorem mkJ2 : mapsRowed Tryz.pinned.checked.prog = true := rowed_eq
theorem mkJ3 : (Tryz.f5.params.all (Tryz.pinned.checked.prog.readableRec ·)) = true := by kernel_rfl
theorem mkJ4 : (namedTie Tryz.pinned.checked.prog Rows.modesKnownRow.named Rows.modesKnownSpec.vars) = true := by kernel_rfl
theorem mkJ5 : ((Rows.modesKnownRow.stops == [])) = true := by kernel_rfl
theorem mkJ6 : ((Tryz.pinned.checked.prog.stops == [])) = true := by kernel_rfl
theorem mkJ7 : ((Rows.modesKnownRow.knobs == [])) = true := by kernel_rfl
theorem mkJ8 : ((Tryz.pinned.checked.prog.stopKnobs == [])) = true := by kernel_rfl
theorem mkJ9 : (Rows.modesKnownRow.inPlace == Tryz.pinned.checked.prog.inPlace 5) = true := beq_of (inPlace_eq mkCloP in_eq) (by kernel_rfl)
theorem mkJ10 : (Rows.modesKnownRow.unfollowed == Tryz.pinned.checked.prog.unfollowed 5) = true := by
  unfold Program.unfollowed; rw [mkCloP]; kernel_rfl
theorem mkJ11 : (Rows.modesKnownRow.recurses == Tryz.pinned.checked.prog.recurses 5) = true := by
  unfold Program.recurses Program.unfollowed; rw [mkCloP]; kernel_rfl
theorem mkJ12 : (Rows.modesKnownRow.named == Tryz.pinned.checked.prog.varsNamed 5) = true := beq_of (varsNamed_eq mkCloP gl_eq er_eq) (by kernel_rfl)
theorem mkJ13 : ((Rows.modesKnownRow.maps == (Tryz.f5.params.toList ++ Rows.modesKnownSpec.plain.varTypes Tryz.pinned.checked.prog).any (Tryz.pinned.checked.prog.mapsRec ·))) = true := by kernel_rfl
theorem mkJ14 : ((Rows.modesKnownRow.ifaces == (Tryz.f5.params.toList ++ Rows.modesKnownSpec.plain.varTypes Tryz.pinned.checked.prog).any (Tryz.pinned.checked.prog.ifacesRec ·))) = true := by kernel_rfl
theorem mkJ15 : ((Rows.modesKnownRow.mapsOut == Tryz.pinned.checked.prog.mapsAmong Tryz.f5.resultTypes.toList)) = true := by kernel_rfl
theorem mkJ16 : ((Rows.modesKnownRow.loops == (Tryz.f5.params.toList ++ Rows.modesKnownSpec.plain.varTypes Tryz.pinned.checked.prog).any (Tryz.pinned.checked.prog.loopsFrom ·))) = true := by kernel_rfl
theorem mkJ17 : ((Rows.modesKnownRow.wideKeys == (Tryz.f5.params.toList ++ Rows.modesKnownSpec.plain.varTypes Tryz.pinned.checked.prog ++ Tryz.f5.resultTypes.toList).any (Tryz.pinned.checked.prog.wideKeysFrom ·))) = true := by kernel_rfl
theorem mkJ18 : (Rows.modesKnownSpec.vars.all (Tryz.pinned.checked.prog.varReadable ·)) = true := by kernel_rfl
theorem mkJ19 : (Tryz.f5.resultTypes.all (fun t => Tryz.pinned.checked.prog.readableRec t && decide (t < Tryz.pinned.checked.prog.types.size))) = true := by kernel_rfl
theorem mkJ20 : ((Rows.modesKnownRow.ifacesOut == Tryz.f5.resultTypes.toList.any (Tryz.pinned.checked.prog.ifacesRec ·))) = true := by kernel_rfl
theorem mkJ21 : ((Rows.modesKnownRow.loopsOut == Tryz.f5.resultTypes.toList.any (Tryz.pinned.checked.prog.loopsFrom ·))) = true := by kernel_rfl
theorem mkJ22 : ((Rows.modesKnownRow.plainKeys == Tryz.pinned.checked.prog.plainKeys)) = true := by kernel_rfl
theorem mkJ23 : (Rows.modesKnownRow.shortTexts.isNone) = true := by kernel_rfl
theorem mkJ24 : Tryz.pinned.checked.prog.stopsHeard = true := stops_eq
theorem mkJ25 : Tryz.pinned.checked.prog.mayEnter = true := may_eq
theorem mkJ26 : ((Rows.modesKnownRow.lifted == Tryz.pinned.checked.prog.liftsFinal)) = true := by kernel_rfl
theorem mkJ27 : ((Tryz.pinned.checked.prog.make == some Rows.modesKnownRow.make)) = true := by kernel_rfl
theorem mkJ28 : ((Rows.modesKnownRow.kinds == (if Rows.modesKnownRow.domain.isEmpty then [] else Tryz.f5.params.toList.map fun t => match Tryz.pinned.checked.prog.underlying t with | some (.int k) => some k | _ => none))) = true := by kernel_rfl
theorem mkJ29 : ((Rows.modesKnownRow.pinned == Rows.modesKnownRow.pinnedBy)) = true := by kernel_rfl
theorem mkJ30 : ((Rows.modesKnownRow.veiled == (Tryz.f5.params.toList ++ Rows.modesKnownSpec.plain.varTypes Tryz.pinned.checked.prog ++ Tryz.f5.resultTypes.toList).any (Tryz.pinned.checked.prog.veiledRec ·))) = true := by kernel_rfl
theorem mkJ31 : (Rows.modesKnownRow.veiledFits Tryz.pinned.checked.prog Tryz.f5.params.toList (Tryz.f5.params.toList ++ Rows.modesKnownSpec.plain.varTypes Tryz.pinned.checked.prog ++ Tryz.f5.resultTypes.toList)) = true := by kernel_rfl
theorem mkJoined : joinedFacts Tryz.pinned.checked.prog 5 Tryz.f5 Rows.modesKnownSpec Rows.modesKnownRow = true := (mkAnd (mkAnd (mkAnd (mkAnd (mkAnd (mkAnd (mkAnd (mkAnd (mkAnd (mkAnd (mkAnd (mkAnd (mkAnd (mkAnd (mkAnd (mkAnd (mkAnd (mkAnd (mkAnd (mkAnd (mkAnd (mkAnd (mkAnd (mkAnd (mkAnd (mkAnd (mkAnd (mkAnd (mkAnd (mkAnd (mkAnd mkJ0 mkJ1) mkJ2) mkJ3) mkJ4) mkJ5) mkJ6) mkJ7) mkJ8) mkJ9) mkJ10) mkJ11) mkJ12) mkJ13) mkJ14) mkJ15) mkJ16) mkJ17) mkJ18) mkJ19) mkJ20) mkJ21) mkJ22) mkJ23) mkJ24) mkJ25) mkJ26) mkJ27) mkJ28) mkJ29) mkJ30) mkJ31)
end
end Go.Proofs.YtdhgjhipfoeffaaGreatDoor
